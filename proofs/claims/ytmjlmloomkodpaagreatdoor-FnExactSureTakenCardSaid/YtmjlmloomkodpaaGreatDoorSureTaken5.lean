/- For every puzzle that can be read, the program's SureTaken and the reference's answer alike, the law returns true, and the puzzle reads as it did; the table of math/bits that the program reads is as the library's text lays it. -/
import Derived.Laws.BitsLemmas
import Derived.Laws.Entries
import Derived.Lib.TrailingZeros
import Derived.Laws.Bits64b
import Derived.Test.YtmjlmloomkodpaaGreatDoorRows
import Derived.Test.YtmjlmloomkodpaaGreatDoorCards
import Derived.Test.YtmjlmloomkodpaaGreatDoorTie
import Derived.WalkKit
import Derived.ProofKit
import Derived.OpenShut
import Derived.ChangeOld
import Derived.Below
import Derived.Carry
import Derived.SizedLaws
import Derived.Deep.DeepHandedRow
import Derived.Lib.LaidTab
import Derived.Test.YtmjlmloomkodpaaGreatDoorSureTaken0
import Derived.Test.YtmjlmloomkodpaaGreatDoorSureTaken1
import Derived.Test.YtmjlmloomkodpaaGreatDoorSureTaken2
import Derived.Test.YtmjlmloomkodpaaGreatDoorSureTaken3
import Derived.Test.YtmjlmloomkodpaaGreatDoorSureTaken4
namespace Go.Proofs.YtmjlmloomkodpaaGreatDoor.PA
open Go.RowKit Go.Proofs.ae.aw Go.Proofs.ae.aJ Go.Proofs.ae.aN
attribute [local go_sem] bo bm bC bB a6 aZ bn bj
set_option linter.unusedVariables false
set_option linter.unusedSimpArgs false
def dY.f (k : Nat) (a0_0 : Int) (a0_1 : Int) (l0_2 : List Int) (l0_3 : List Int) (a0_4 : Int) (a0_5 : Bool) (a0_6 : Int) : Option (Int × Int × List Int × List Int × Bool) := (cm.f k a0_0 a0_1 l0_2 l0_3 a0_4 a0_5 a0_6).bind fun bt173 => (if bt173.2.2 = true then ((bN.f a0_0 a0_1 l0_2 l0_3).bind fun bt176 => ((bM.f k bt176.1 bt176.2 bt173.2.1).bind fun bt178 => (some (bt178.1, bt178.2.1, bt178.2.2.1, bt178.2.2.2, true)))) else (some (0, 0, ([] : List Int), ([] : List Int), false)))
set_option maxHeartbeats 8000000 in
set_option maxRecDepth 100000 in
theorem dY.calls (k : Nat) (a0_0 : Int) (a0_1 : Int) (A0_2 : Option Addr) (c0_2 : Nat) (l0_2 : List Int) (A0_3 : Option Addr) (c0_3 : Nat) (l0_3 : List Int) (a0_4 : Int) (a0_5 : Bool) (a0_6 : Int) (r1 : Int) (r2 : Int) (r3 : List Int) (r4 : List Int) (r5 : Bool) (w : World) (hT : ej w) (ca : Kd.C (Kd.int .i64) w A0_2 l0_2.length l0_2) (bX : l0_2.length ≤ c0_2) (b0 : Kd.C (Kd.int .i64) w A0_3 l0_3.length l0_3) (bW : l0_3.length ≤ c0_3) (h : dY.f k a0_0 a0_1 l0_2 l0_3 a0_4 a0_5 a0_6 = some (r1, r2, r3, r4, r5)) :
  Calls Tryz.prog 19 #[.agg #[.int .i64 a0_0, .int .i64 a0_1, .slice A0_2 l0_2.length c0_2, .slice A0_3 l0_3.length c0_3, .int .i64 a0_4, .bool a0_5, .int .i64 a0_6]] w fun e w' => ∃ v2_ v3_ : Value, e = .returned (.tuple #[.agg #[.int .i64 r1, .int .i64 r2, v2_, v3_], .bool r5]) ∧ Kd.R (Kd.int .i64) 3 w' w.heap.size (fun k_ => some k_ ≠ (v3_ : Value).ownBlock) v2_ r3 ∧ Kd.R (Kd.int .i64) 3 w' w.heap.size (fun k_ => some k_ ≠ (v2_ : Value).ownBlock) v3_ r4 ∧ Below w.heap.size w w' := by
 have hu32 := Tryz.underlying32
 have hu28 := Tryz.underlying28
 have cy := aa.mk ca
 have cD := aa.mk bX
 clear ca bX
 have cF := aa.mk b0
 have cK := aa.mk bW
 clear b0 bW
 have HT := aa.mk hT
 clear hT
 have HB := aa.mk (Below.refl w.heap.size w)
 have H : ((cm.f k a0_0 a0_1 l0_2 l0_3 a0_4 a0_5 a0_6).bind fun bt173 => (if bt173.2.2 = true then ((bN.f a0_0 a0_1 l0_2 l0_3).bind fun bt176 => ((bM.f k bt176.1 bt176.2 bt173.2.1).bind fun bt178 => (some (bt178.1, bt178.2.1, bt178.2.2.1, bt178.2.2.2, true)))) else (some (0, 0, ([] : List Int), ([] : List Int), false)))) = some (r1, r2, r3, r4, r5) := h
 clear h
 replace H := Option.bind_eq_some_iff.mp H
 obtain ⟨⟨t173, t174, t175⟩, A20, H⟩ := H
 replace H : (if t175 = true then ((bN.f a0_0 a0_1 l0_2 l0_3).bind fun bt176 => ((bM.f k bt176.1 bt176.2 t174).bind fun bt178 => (some (bt178.1, bt178.2.1, bt178.2.2.1, bt178.2.2.2, true)))) else (some (0, 0, ([] : List Int), ([] : List Int), false))) = some (r1, r2, r3, r4, r5) := H
 have A2 := aa.mk A20
 clear A20
 by_cases c3 : t175 = true
 ·subst c3
  have H1 : ((bN.f a0_0 a0_1 l0_2 l0_3).bind fun bt176 => ((bM.f k bt176.1 bt176.2 t174).bind fun bt178 => (some (bt178.1, bt178.2.1, bt178.2.2.1, bt178.2.2.2, true)))) = some (r1, r2, r3, r4, r5) := by rw [if_pos rfl] at H; exact H
  clear H
  have H := H1
  clear H1
  replace H := Option.bind_eq_some_iff.mp H
  obtain ⟨⟨t176, t177⟩, A40, H⟩ := H
  replace H : ((bM.f k t176 t177 t174).bind fun bt178 => (some (bt178.1, bt178.2.1, bt178.2.2.1, bt178.2.2.2, true))) = some (r1, r2, r3, r4, r5) := H
  have A4 := aa.mk A40
  clear A40
  replace H := Option.bind_eq_some_iff.mp H
  obtain ⟨⟨t178, t179, t180, t183⟩, A50, H⟩ := H
  replace H : (some (t178, t179, t180, t183, true)) = some (r1, r2, r3, r4, r5) := H
  have A5 := aa.mk A50
  clear A50
  simp only [Option.some.injEq, Prod.mk.injEq] at H
  obtain ⟨rfl, rfl, rfl, rfl, rfl⟩ := H
  go_enter Tryz.func19, Tryz.ntmps19
  go_wp2_with (first | ((with_reducible refine aV (N := 1) rfl ?_); refine aM ?hg (N := 1) ?hd (cs := #[.int .i64 a0_0, .int .i64 a0_1, .slice A0_2 l0_2.length c0_2, .slice A0_3 l0_3.length c0_3, .int .i64 a0_4, .bool a0_5, .int .i64 a0_6]) (t := 32) ?hr ?_; (case hd => rfl); (case hg => rfl); (case hr => first | (go_simp; done) | (go_simp; rfl)); intro dS hg w6 hbox hb; have n0_ := aa.mk (ar (by repeat (first | (with_reducible first | exact HB.out | apply ag | apply af | apply ah) | exact HB.out)) hb); have n1_ := aa.mk (hbox); have n2_ := aa.mk ((by rw [hg]; exact (aq (by repeat (first | (with_reducible first | exact HB.out | apply ag | apply af | apply ah) | exact HB.out))) : w.heap.size ≤ dS)); have n3_ := aa.mk ((by rw [hg]; exact (aq (by repeat (first | (with_reducible first | exact HB.out | apply ag | apply af | apply ah) | exact HB.out))) : w.heap.size ≤ dS)); clear HB; have HB := n0_; have cQ := n1_; have Gc := n2_; have iz := n3_; clear n0_ n1_ n2_ n3_; clear hb hbox hg) | ((with_reducible refine aV (N := 2) rfl ?_); refine aM ?hg (N := 2) ?hd (cs := #[.int .i64 0, .int .i64 0, .slice none 0 0, .slice none 0 0]) (t := 28) ?hr ?_; (case hd => rfl); (case hg => rfl); (case hr => first | (go_simp; done) | (go_simp; rfl)); intro eS hg w7 hbox hb; have n0_ := aa.mk (aD (g := dS) (o := .cells #[.int .i64 a0_0, .int .i64 a0_1, .slice A0_2 l0_2.length c0_2, .slice A0_3 l0_3.length c0_3, .int .i64 a0_4, .bool a0_5, .int .i64 a0_6] 32 (0, 0)) (by (with_reducible repeat (first | refine al ?_ _ | refine ao ?_ | refine an ?_ _)); exact cQ.out) hb); have n1_ := aa.mk (ar (by repeat (first | (with_reducible first | exact HB.out | apply ag | apply af | apply ah | refine ak ?_ iz.out) | exact HB.out)) hb); have n2_ := aa.mk (hbox); have n3_ := aa.mk ((by rw [hg]; exact (aq (by repeat (first | (with_reducible first | exact HB.out | apply ag | apply af | apply ah | refine ak ?_ iz.out) | exact HB.out))) : w.heap.size ≤ eS)); have n4_ := aa.mk ((by rw [hg]; exact (aq (by repeat (first | (with_reducible first | exact HB.out | apply ag | apply af | apply ah | refine ak ?_ iz.out) | exact HB.out))) : w.heap.size ≤ eS)); have n5_ := aa.mk ((by rw [hg]; exact Nat.ne_of_lt (a7 (g := dS) (o := .cells #[.int .i64 a0_0, .int .i64 a0_1, .slice A0_2 l0_2.length c0_2, .slice A0_3 l0_3.length c0_3, .int .i64 a0_4, .bool a0_5, .int .i64 a0_6] 32 (0, 0)) (by (with_reducible repeat (first | refine al ?_ _ | refine ao ?_ | refine an ?_ _)); exact cQ.out)) : dS ≠ eS)); have n6_ := aa.mk ((by rw [hg]; exact Nat.ne_of_gt (a7 (g := dS) (o := .cells #[.int .i64 a0_0, .int .i64 a0_1, .slice A0_2 l0_2.length c0_2, .slice A0_3 l0_3.length c0_3, .int .i64 a0_4, .bool a0_5, .int .i64 a0_6] 32 (0, 0)) (by (with_reducible repeat (first | refine al ?_ _ | refine ao ?_ | refine an ?_ _)); exact cQ.out)) : eS ≠ dS)); clear cQ; clear HB; have cQ := n0_; have HB := n1_; have eF := n2_; have Gb := n3_; have kV := n4_; have n4 := n5_; have nZ := n6_; clear n0_ n1_ n2_ n3_ n4_ n5_ n6_; clear hb hbox hg; have Bn := n4.out; have Bm := nZ.out; have gS : w7.cell? ⟨dS, 0, none⟩ = some (.int .i64 a0_0) := (ai cQ.out 0).trans rfl; have gR : w7.cell? ⟨dS, 1, none⟩ = some (.int .i64 a0_1) := (ai cQ.out 1).trans rfl; have iD : w7.cell? ⟨dS, 2, none⟩ = some (.slice A0_2 l0_2.length c0_2) := (ai cQ.out 2).trans rfl; have iC : w7.cell? ⟨dS, 3, none⟩ = some (.slice A0_3 l0_3.length c0_3) := (ai cQ.out 3).trans rfl; have si : w7.cell? ⟨dS, 4, none⟩ = some (.int .i64 a0_4) := (ai cQ.out 4).trans rfl; have sh : w7.cell? ⟨dS, 5, none⟩ = some (.bool a0_5) := (ai cQ.out 5).trans rfl; have uT : w7.cell? ⟨dS, 6, none⟩ = some (.int .i64 a0_6) := (ai cQ.out 6).trans rfl; have gQ := aj cQ.out 0; have gP := aj cQ.out 1; have iB := aj cQ.out 2; have iA := aj cQ.out 3; have rN := aj cQ.out 4; have rM := aj cQ.out 5; have uO := aj cQ.out 6) | ((with_reducible refine az (f := 38) rfl ?_); refine bI (some 9) rfl rfl Tryz.func38 (by kernel_rfl) rfl #[.agg #[.int .i64 a0_0, .int .i64 a0_1, .slice A0_2 l0_2.length c0_2, .slice A0_3 l0_3.length c0_3, .int .i64 a0_4, .bool a0_5, .int .i64 a0_6]] rfl (by (try simp only [List.map_toArray, List.map_cons, List.map_nil]); first | done | rfl | (simp only [List.length_drop, List.length_take]; rfl)) ?_; (with_reducible refine (cm.calls k a0_0 a0_1 _ _ l0_2 _ _ l0_3 a0_4 a0_5 a0_6 t173 t174 true _ ?side1 ?side2 ?side3 ?side4 ?side5 A2.out).mono ?_); (case side1 => exact ej.below HT.out (by repeat (first | (with_reducible first | exact HB.out | apply ag | apply af | apply ah | refine ak ?_ iz.out | refine ak ?_ kV.out) | exact HB.out))); (case side2 => repeat (first | exact (Kd.ax cy.out HB.out) | (with_reducible refine Kd.aX ?_ _) | (with_reducible refine Kd.aW ?_ _) | (with_reducible refine Kd.bh ?_))); (case side3 => exact cD.out); (case side4 => repeat (first | exact (Kd.ax cF.out HB.out) | (with_reducible refine Kd.aX ?_ _) | (with_reducible refine Kd.aW ?_ _) | (with_reducible refine Kd.bh ?_))); (case side5 => exact cK.out); rintro e w10 ⟨rfl, hb⟩; refine ⟨_, rfl, ?_⟩; have n0_ := aa.mk (aD (g := dS) (o := .cells #[.int .i64 a0_0, .int .i64 a0_1, .slice A0_2 l0_2.length c0_2, .slice A0_3 l0_3.length c0_3, .int .i64 a0_4, .bool a0_5, .int .i64 a0_6] 32 (0, 0)) (by (with_reducible repeat (first | refine al ?_ _ | refine ao ?_ | refine an ?_ _)); exact cQ.out) hb); have n1_ := aa.mk (aD (g := eS) (o := .cells #[.int .i64 0, .int .i64 0, .slice none 0 0, .slice none 0 0] 28 (0, 0)) (by (with_reducible repeat (first | refine al ?_ _ | refine ao ?_ | refine an ?_ _)); exact eF.out) hb); have n2_ := aa.mk (ar (by repeat (first | (with_reducible first | exact HB.out | apply ag | apply af | apply ah | refine ak ?_ iz.out | refine ak ?_ kV.out) | exact HB.out)) hb); clear cQ; clear eF; clear HB; have cQ := n0_; have eF := n1_; have HB := n2_; clear n0_ n1_ n2_; (try clear hb); (try clear hb2); (try clear hk); (try clear hi); have pa : w10.cell? ⟨dS, 0, none⟩ = some (.int .i64 a0_0) := (ai cQ.out 0).trans rfl; have o9 : w10.cell? ⟨dS, 1, none⟩ = some (.int .i64 a0_1) := (ai cQ.out 1).trans rfl; have o8 : w10.cell? ⟨dS, 2, none⟩ = some (.slice A0_2 l0_2.length c0_2) := (ai cQ.out 2).trans rfl; have o7 : w10.cell? ⟨dS, 3, none⟩ = some (.slice A0_3 l0_3.length c0_3) := (ai cQ.out 3).trans rfl; have wT : w10.cell? ⟨dS, 4, none⟩ = some (.int .i64 a0_4) := (ai cQ.out 4).trans rfl; have wS : w10.cell? ⟨dS, 5, none⟩ = some (.bool a0_5) := (ai cQ.out 5).trans rfl; have Cd : w10.cell? ⟨dS, 6, none⟩ = some (.int .i64 a0_6) := (ai cQ.out 6).trans rfl; have o4 := aj cQ.out 0; have o3 := aj cQ.out 1; have o2 := aj cQ.out 2; have oZ := aj cQ.out 3; have wm := aj cQ.out 4; have wk := aj cQ.out 5; have BK := aj cQ.out 6) | ((with_reducible refine az (f := 39) rfl ?_); refine bI (some 18) rfl rfl Tryz.func39 (by kernel_rfl) rfl #[.agg #[.int .i64 a0_0, .int .i64 a0_1, .slice A0_2 l0_2.length c0_2, .slice A0_3 l0_3.length c0_3]] rfl (by (try simp only [List.map_toArray, List.map_cons, List.map_nil]); first | done | rfl | (simp only [List.length_drop, List.length_take]; rfl)) ?_; (with_reducible refine (bN.calls a0_0 a0_1 _ _ l0_2 _ _ l0_3 t176 t177 _ ?side1 ?side2 ?side3 ?side4 A4.out).mono ?_); (case side1 => repeat (first | exact (Kd.ax cy.out HB.out) | (with_reducible refine Kd.aX ?_ _) | (with_reducible refine Kd.aW ?_ _) | (with_reducible refine Kd.bh ?_))); (case side2 => exact cD.out); (case side3 => repeat (first | exact (Kd.ax cF.out HB.out) | (with_reducible refine Kd.aX ?_ _) | (with_reducible refine Kd.aW ?_ _) | (with_reducible refine Kd.bh ?_))); (case side4 => exact cK.out); rintro e w12 ⟨rfl, hb⟩; refine ⟨_, rfl, ?_⟩; have n0_ := aa.mk (aD (g := dS) (o := .cells #[.int .i64 a0_0, .int .i64 a0_1, .slice A0_2 l0_2.length c0_2, .slice A0_3 l0_3.length c0_3, .int .i64 a0_4, .bool a0_5, .int .i64 a0_6] 32 (0, 0)) (by (with_reducible repeat (first | refine al ?_ _ | refine ao ?_ | refine an ?_ _)); exact cQ.out) hb); have n1_ := aa.mk (aD (g := eS) (o := .cells #[.int .i64 0, .int .i64 0, .slice none 0 0, .slice none 0 0] 28 (0, 0)) (by (with_reducible repeat (first | refine al ?_ _ | refine ao ?_ | refine an ?_ _)); exact eF.out) hb); have n2_ := aa.mk (ar (by repeat (first | (with_reducible first | exact HB.out | apply ag | apply af | apply ah | refine ak ?_ iz.out | refine ak ?_ kV.out) | exact HB.out)) hb); clear cQ; clear eF; clear HB; have cQ := n0_; have eF := n1_; have HB := n2_; clear n0_ n1_ n2_; (try clear hb); (try clear hb2); (try clear hk); (try clear hi)) | ((with_reducible refine az (f := 40) rfl ?_); refine bI (some 20) rfl rfl Tryz.func40 (by kernel_rfl) rfl #[.agg #[.int .i64 t176, .int .i64 t177], .int .u64 t174] rfl (by (try simp only [List.map_toArray, List.map_cons, List.map_nil]); first | done | rfl | (simp only [List.length_drop, List.length_take]; rfl)) ?_; (with_reducible refine (bM.calls k t176 t177 t174 t178 t179 t180 t183 _ ?side1 A5.out).mono ?_); (case side1 => exact ej.below HT.out (by repeat (first | (with_reducible first | exact HB.out | apply ag | apply af | apply ah | refine ak ?_ iz.out | refine ak ?_ kV.out) | exact HB.out))); rintro e w13 ⟨v181, v184, rfl, ho0, ho1, hb⟩; refine ⟨_, rfl, ?_⟩; have n0_ := aa.mk (Kd.cW ho0 (aq (by repeat (first | (with_reducible first | exact HB.out | apply ag | apply af | apply ah | refine ak ?_ iz.out | refine ak ?_ kV.out) | exact HB.out)))); have n1_ := aa.mk (Kd.cW ho1 (aq (by repeat (first | (with_reducible first | exact HB.out | apply ag | apply af | apply ah | refine ak ?_ iz.out | refine ak ?_ kV.out) | exact HB.out)))); have n2_ := aa.mk (aD (g := dS) (o := .cells #[.int .i64 a0_0, .int .i64 a0_1, .slice A0_2 l0_2.length c0_2, .slice A0_3 l0_3.length c0_3, .int .i64 a0_4, .bool a0_5, .int .i64 a0_6] 32 (0, 0)) (by (with_reducible repeat (first | refine al ?_ _ | refine ao ?_ | refine an ?_ _)); exact cQ.out) hb); have n3_ := aa.mk (aD (g := eS) (o := .cells #[.int .i64 0, .int .i64 0, .slice none 0 0, .slice none 0 0] 28 (0, 0)) (by (with_reducible repeat (first | refine al ?_ _ | refine ao ?_ | refine an ?_ _)); exact eF.out) hb); have n4_ := aa.mk (ar (by repeat (first | (with_reducible first | exact HB.out | apply ag | apply af | apply ah | refine ak ?_ iz.out | refine ak ?_ kV.out) | exact HB.out)) hb); clear cQ; clear eF; clear HB; have C5 := n0_; have C4 := n1_; have cQ := n2_; have eF := n3_; have HB := n4_; clear n0_ n1_ n2_ n3_ n4_; (try clear hb); (try clear hb2); (try clear hk); (try clear hi); (try clear ho0); (try clear ho1); have wR : w13.cell? ⟨eS, 0, none⟩ = some (.int .i64 0) := (ai eF.out 0).trans rfl; have wQ : w13.cell? ⟨eS, 1, none⟩ = some (.int .i64 0) := (ai eF.out 1).trans rfl; have Cc : w13.cell? ⟨eS, 2, none⟩ = some (.slice none 0 0) := (ai eF.out 2).trans rfl; have Cb : w13.cell? ⟨eS, 3, none⟩ = some (.slice none 0 0) := (ai eF.out 3).trans rfl; have wj := aj eF.out 0; have wi := aj eF.out 1; have BJ := aj eF.out 2; have BI := aj eF.out 3; obtain ⟨vp, pR, sL⟩ := Kd.bE C5.out; subst sL; obtain ⟨El, DZ, eo16⟩ := Kd.bE C4.out; subst eo16))
  refine bodyPost_ret (ky rfl _ _ eS 28 #[.int .i64 t178, .int .i64 t179, .slice vp t180.length pR, .slice El t183.length DZ] (0, 0) _ rfl (by (with_reducible repeat (first | refine al ?_ _ | refine ao ?_ | refine an ?_ _)); refine bF (cs := #[.int .i64 t178, .int .i64 t179, .slice vp t180.length pR, .slice none 0 0]) ?_ 3 _ rfl; (with_reducible repeat (first | refine al ?_ _ | refine ao ?_ | refine an ?_ _)); refine bF (cs := #[.int .i64 t178, .int .i64 t179, .slice none 0 0, .slice none 0 0]) ?_ 2 _ rfl; (with_reducible repeat (first | refine al ?_ _ | refine ao ?_ | refine an ?_ _)); refine bF (cs := #[.int .i64 t178, .int .i64 0, .slice none 0 0, .slice none 0 0]) ?_ 1 _ rfl; (with_reducible repeat (first | refine al ?_ _ | refine ao ?_ | refine an ?_ _)); refine bF (cs := #[.int .i64 0, .int .i64 0, .slice none 0 0, .slice none 0 0]) ?_ 0 _ rfl; (with_reducible repeat (first | refine al ?_ _ | refine ao ?_ | refine an ?_ _)); exact eF.out) Tryz.underlying28 rfl (by kernel_rfl)) rfl ?_
  exact ⟨_, _, by first | rfl | (simp [av, au] <;> rfl) | (simp [*, av, au] <;> rfl), by (with_reducible repeat (first | apply Kd.aH | apply Kd.aG | apply Kd.aQ)); exact Kd.bV (Kd.bp (p := ⟨eS, 3, none⟩) (Kd.bp (p := ⟨eS, 2, none⟩) (Kd.bp (p := ⟨eS, 1, none⟩) (Kd.bp (p := ⟨eS, 0, none⟩) (Kd.cU C5.out eF.out (by decide)) (fun _ hk => hk.2) (.int .i64 t178)) (fun _ hk => hk.2) (.int .i64 t179)) (fun _ hk => hk.2) (.slice vp t180.length pR)) (fun _ hk => hk.2) (.slice El t183.length DZ)) (fun _ hk => hk.1), by (with_reducible repeat (first | apply Kd.aH | apply Kd.aG | apply Kd.aQ)); exact Kd.bV (Kd.bp (p := ⟨eS, 3, none⟩) (Kd.bp (p := ⟨eS, 2, none⟩) (Kd.bp (p := ⟨eS, 1, none⟩) (Kd.bp (p := ⟨eS, 0, none⟩) (Kd.cU C4.out eF.out (by decide)) (fun _ hk => hk.2) (.int .i64 t178)) (fun _ hk => hk.2) (.int .i64 t179)) (fun _ hk => hk.2) (.slice vp t180.length pR)) (fun _ hk => hk.2) (.slice El t183.length DZ)) (fun _ hk => hk.1), by repeat (first | (with_reducible first | exact HB.out | apply ag | apply af | apply ah | refine ak ?_ iz.out | refine ak ?_ kV.out) | exact HB.out)⟩
 ·replace c3 := Bool.eq_false_iff.mpr c3
  subst c3
  have H1 : (some (0, 0, ([] : List Int), ([] : List Int), false)) = some (r1, r2, r3, r4, r5) := by rw [if_neg (show ¬ (false = true) by decide)] at H; exact H
  clear H
  have H := H1
  clear H1
  simp only [Option.some.injEq, Prod.mk.injEq] at H
  obtain ⟨rfl, rfl, rfl, rfl, rfl⟩ := H
  go_enter Tryz.func19, Tryz.ntmps19
  go_wp2_with (first | ((with_reducible refine aV (N := 1) rfl ?_); refine aM ?hg (N := 1) ?hd (cs := #[.int .i64 a0_0, .int .i64 a0_1, .slice A0_2 l0_2.length c0_2, .slice A0_3 l0_3.length c0_3, .int .i64 a0_4, .bool a0_5, .int .i64 a0_6]) (t := 32) ?hr ?_; (case hd => rfl); (case hg => rfl); (case hr => first | (go_simp; done) | (go_simp; rfl)); intro dS hg w17 hbox hb; have n0_ := aa.mk (ar (by repeat (first | (with_reducible first | exact HB.out | apply ag | apply af | apply ah) | exact HB.out)) hb); have n1_ := aa.mk (hbox); have n2_ := aa.mk ((by rw [hg]; exact (aq (by repeat (first | (with_reducible first | exact HB.out | apply ag | apply af | apply ah) | exact HB.out))) : w.heap.size ≤ dS)); have n3_ := aa.mk ((by rw [hg]; exact (aq (by repeat (first | (with_reducible first | exact HB.out | apply ag | apply af | apply ah) | exact HB.out))) : w.heap.size ≤ dS)); clear HB; have HB := n0_; have cQ := n1_; have Gc := n2_; have iz := n3_; clear n0_ n1_ n2_ n3_; clear hb hbox hg) | ((with_reducible refine aV (N := 2) rfl ?_); refine aM ?hg (N := 2) ?hd (cs := #[.int .i64 0, .int .i64 0, .slice none 0 0, .slice none 0 0]) (t := 28) ?hr ?_; (case hd => rfl); (case hg => rfl); (case hr => first | (go_simp; done) | (go_simp; rfl)); intro eS hg w18 hbox hb; have n0_ := aa.mk (aD (g := dS) (o := .cells #[.int .i64 a0_0, .int .i64 a0_1, .slice A0_2 l0_2.length c0_2, .slice A0_3 l0_3.length c0_3, .int .i64 a0_4, .bool a0_5, .int .i64 a0_6] 32 (0, 0)) (by (with_reducible repeat (first | refine al ?_ _ | refine ao ?_ | refine an ?_ _)); exact cQ.out) hb); have n1_ := aa.mk (ar (by repeat (first | (with_reducible first | exact HB.out | apply ag | apply af | apply ah | refine ak ?_ iz.out) | exact HB.out)) hb); have n2_ := aa.mk (hbox); have n3_ := aa.mk ((by rw [hg]; exact (aq (by repeat (first | (with_reducible first | exact HB.out | apply ag | apply af | apply ah | refine ak ?_ iz.out) | exact HB.out))) : w.heap.size ≤ eS)); have n4_ := aa.mk ((by rw [hg]; exact (aq (by repeat (first | (with_reducible first | exact HB.out | apply ag | apply af | apply ah | refine ak ?_ iz.out) | exact HB.out))) : w.heap.size ≤ eS)); have n5_ := aa.mk ((by rw [hg]; exact Nat.ne_of_lt (a7 (g := dS) (o := .cells #[.int .i64 a0_0, .int .i64 a0_1, .slice A0_2 l0_2.length c0_2, .slice A0_3 l0_3.length c0_3, .int .i64 a0_4, .bool a0_5, .int .i64 a0_6] 32 (0, 0)) (by (with_reducible repeat (first | refine al ?_ _ | refine ao ?_ | refine an ?_ _)); exact cQ.out)) : dS ≠ eS)); have n6_ := aa.mk ((by rw [hg]; exact Nat.ne_of_gt (a7 (g := dS) (o := .cells #[.int .i64 a0_0, .int .i64 a0_1, .slice A0_2 l0_2.length c0_2, .slice A0_3 l0_3.length c0_3, .int .i64 a0_4, .bool a0_5, .int .i64 a0_6] 32 (0, 0)) (by (with_reducible repeat (first | refine al ?_ _ | refine ao ?_ | refine an ?_ _)); exact cQ.out)) : eS ≠ dS)); clear cQ; clear HB; have cQ := n0_; have HB := n1_; have eF := n2_; have Gb := n3_; have kV := n4_; have n4 := n5_; have nZ := n6_; clear n0_ n1_ n2_ n3_ n4_ n5_ n6_; clear hb hbox hg; have hnb19 := n4.out; have hnc19 := nZ.out; have wH : w18.cell? ⟨dS, 0, none⟩ = some (.int .i64 a0_0) := (ai cQ.out 0).trans rfl; have wG : w18.cell? ⟨dS, 1, none⟩ = some (.int .i64 a0_1) := (ai cQ.out 1).trans rfl; have wE : w18.cell? ⟨dS, 2, none⟩ = some (.slice A0_2 l0_2.length c0_2) := (ai cQ.out 2).trans rfl; have wD : w18.cell? ⟨dS, 3, none⟩ = some (.slice A0_3 l0_3.length c0_3) := (ai cQ.out 3).trans rfl; have hcz20_4 : w18.cell? ⟨dS, 4, none⟩ = some (.int .i64 a0_4) := (ai cQ.out 4).trans rfl; have hcz20_5 : w18.cell? ⟨dS, 5, none⟩ = some (.bool a0_5) := (ai cQ.out 5).trans rfl; have hcz20_6 : w18.cell? ⟨dS, 6, none⟩ = some (.int .i64 a0_6) := (ai cQ.out 6).trans rfl; have vW := aj cQ.out 0; have vV := aj cQ.out 1; have vU := aj cQ.out 2; have vT := aj cQ.out 3; have G6 := aj cQ.out 4; have G5 := aj cQ.out 5; have G4 := aj cQ.out 6) | ((with_reducible refine az (f := 38) rfl ?_); refine bI (some 9) rfl rfl Tryz.func38 (by kernel_rfl) rfl #[.agg #[.int .i64 a0_0, .int .i64 a0_1, .slice A0_2 l0_2.length c0_2, .slice A0_3 l0_3.length c0_3, .int .i64 a0_4, .bool a0_5, .int .i64 a0_6]] rfl (by (try simp only [List.map_toArray, List.map_cons, List.map_nil]); first | done | rfl | (simp only [List.length_drop, List.length_take]; rfl)) ?_; (with_reducible refine (cm.calls k a0_0 a0_1 _ _ l0_2 _ _ l0_3 a0_4 a0_5 a0_6 t173 t174 false _ ?side1 ?side2 ?side3 ?side4 ?side5 A2.out).mono ?_); (case side1 => exact ej.below HT.out (by repeat (first | (with_reducible first | exact HB.out | apply ag | apply af | apply ah | refine ak ?_ iz.out | refine ak ?_ kV.out) | exact HB.out))); (case side2 => repeat (first | exact (Kd.ax cy.out HB.out) | (with_reducible refine Kd.aX ?_ _) | (with_reducible refine Kd.aW ?_ _) | (with_reducible refine Kd.bh ?_))); (case side3 => exact cD.out); (case side4 => repeat (first | exact (Kd.ax cF.out HB.out) | (with_reducible refine Kd.aX ?_ _) | (with_reducible refine Kd.aW ?_ _) | (with_reducible refine Kd.bh ?_))); (case side5 => exact cK.out); rintro e w21 ⟨rfl, hb⟩; refine ⟨_, rfl, ?_⟩; have n0_ := aa.mk (aD (g := dS) (o := .cells #[.int .i64 a0_0, .int .i64 a0_1, .slice A0_2 l0_2.length c0_2, .slice A0_3 l0_3.length c0_3, .int .i64 a0_4, .bool a0_5, .int .i64 a0_6] 32 (0, 0)) (by (with_reducible repeat (first | refine al ?_ _ | refine ao ?_ | refine an ?_ _)); exact cQ.out) hb); have n1_ := aa.mk (aD (g := eS) (o := .cells #[.int .i64 0, .int .i64 0, .slice none 0 0, .slice none 0 0] 28 (0, 0)) (by (with_reducible repeat (first | refine al ?_ _ | refine ao ?_ | refine an ?_ _)); exact eF.out) hb); have n2_ := aa.mk (ar (by repeat (first | (with_reducible first | exact HB.out | apply ag | apply af | apply ah | refine ak ?_ iz.out | refine ak ?_ kV.out) | exact HB.out)) hb); clear cQ; clear eF; clear HB; have cQ := n0_; have eF := n1_; have HB := n2_; clear n0_ n1_ n2_; (try clear hb); (try clear hb2); (try clear hk); (try clear hi); have wC : w21.cell? ⟨eS, 0, none⟩ = some (.int .i64 0) := (ai eF.out 0).trans rfl; have wB : w21.cell? ⟨eS, 1, none⟩ = some (.int .i64 0) := (ai eF.out 1).trans rfl; have wA : w21.cell? ⟨eS, 2, none⟩ = some (.slice none 0 0) := (ai eF.out 2).trans rfl; have wz : w21.cell? ⟨eS, 3, none⟩ = some (.slice none 0 0) := (ai eF.out 3).trans rfl; have vS := aj eF.out 0; have vR := aj eF.out 1; have vQ := aj eF.out 2; have vP := aj eF.out 3))
  refine bodyPost_ret (ky rfl _ _ eS 28 #[.int .i64 0, .int .i64 0, .slice none 0 0, .slice none 0 0] (0, 0) _ rfl (by (with_reducible repeat (first | refine al ?_ _ | refine ao ?_ | refine an ?_ _)); refine bF (cs := #[.int .i64 0, .int .i64 0, .slice none 0 0, .slice none 0 0]) ?_ 3 _ rfl; (with_reducible repeat (first | refine al ?_ _ | refine ao ?_ | refine an ?_ _)); refine bF (cs := #[.int .i64 0, .int .i64 0, .slice none 0 0, .slice none 0 0]) ?_ 2 _ rfl; (with_reducible repeat (first | refine al ?_ _ | refine ao ?_ | refine an ?_ _)); refine bF (cs := #[.int .i64 0, .int .i64 0, .slice none 0 0, .slice none 0 0]) ?_ 1 _ rfl; (with_reducible repeat (first | refine al ?_ _ | refine ao ?_ | refine an ?_ _)); refine bF (cs := #[.int .i64 0, .int .i64 0, .slice none 0 0, .slice none 0 0]) ?_ 0 _ rfl; (with_reducible repeat (first | refine al ?_ _ | refine ao ?_ | refine an ?_ _)); exact eF.out) Tryz.underlying28 rfl (by kernel_rfl)) rfl ?_
  exact ⟨_, _, by first | rfl | (simp [av, au] <;> rfl) | (simp [*, av, au] <;> rfl), by first | exact Kd.ir _ _ _ _ _ | exact Kd.mx _ _ _ _ _ | exact Kd.mu _ _ _ _ _ | exact Kd.mw _ _ _ _ _ | exact Kd.km _ _ _ _ _, by first | exact Kd.ir _ _ _ _ _ | exact Kd.mx _ _ _ _ _ | exact Kd.mu _ _ _ _ _ | exact Kd.mw _ _ _ _ _ | exact Kd.km _ _ _ _ _, by repeat (first | (with_reducible first | exact HB.out | apply ag | apply af | apply ah | refine ak ?_ iz.out | refine ak ?_ kV.out) | exact HB.out)⟩
end Go.Proofs.YtmjlmloomkodpaaGreatDoor.PA
namespace Go.Proofs.YtmjlmloomkodpaaGreatDoor.PA
open Go.RowKit Go.Proofs.ae.aw Go.Proofs.ae.aJ Go.Proofs.ae.aN
attribute [local go_sem] bo bm bC bB a6 aZ bn bj
set_option linter.unusedVariables false
set_option linter.unusedSimpArgs false
def pzO (a b : Int) (v2 v3 : Value) (m : Int) (mv : Bool) (s : Int) (t : Nat) : Obj := .cells #[.int .i64 a, .int .i64 b, v2, v3, .int .i64 m, .bool mv, .int .i64 s] t (0, 0)
def fgO (a b : Int) (v2 v3 : Value) (t : Nat) : Obj := .cells #[.int .i64 a, .int .i64 b, v2, v3] t (0, 0)
theorem ju {W : World} {g : Nat} {a b : Int} {v2 v3 : Value} {m : Int} {mv : Bool} {s : Int} {t : Nat} (h : W.heap[g]? = some (pzO a b v2 v3 m mv s t)) :
    W.cell? ⟨g, 0, none⟩ = some (.int .i64 a) ∧ W.cell? ⟨g, 1, none⟩ = some (.int .i64 b) ∧ W.cell? ⟨g, 2, none⟩ = some v2 ∧ W.cell? ⟨g, 3, none⟩ = some v3 ∧ W.cell? ⟨g, 4, none⟩ = some (.int .i64 m) ∧ W.cell? ⟨g, 5, none⟩ = some (.bool mv) ∧ W.cell? ⟨g, 6, none⟩ = some (.int .i64 s) :=
  ⟨(ai h 0).trans rfl, (ai h 1).trans rfl, (ai h 2).trans rfl, (ai h 3).trans rfl, (ai h 4).trans rfl, (ai h 5).trans rfl, (ai h 6).trans rfl⟩
theorem jE {W : World} {g : Nat} {a b : Int} {v2 v3 : Value} {t : Nat} (h : W.heap[g]? = some (fgO a b v2 v3 t)) :
    W.cell? ⟨g, 0, none⟩ = some (.int .i64 a) ∧ W.cell? ⟨g, 1, none⟩ = some (.int .i64 b) ∧ W.cell? ⟨g, 2, none⟩ = some v2 ∧ W.cell? ⟨g, 3, none⟩ = some v3 :=
  ⟨(ai h 0).trans rfl, (ai h 1).trans rfl, (ai h 2).trans rfl, (ai h 3).trans rfl⟩
theorem vw (A : Option Addr) (n n' c : Nat) : (Value.slice A n c).ownBlock = (Value.slice A n' c).ownBlock := by cases A <;> rfl
abbrev Rw (W : World) (lo hi : Nat) (u v : Value) (l : List Int) : Prop := Kd.R (Kd.int .i64) 3 W lo (fun k => (lo ≤ k ∧ k < hi) ∧ some k ≠ u.ownBlock) v l
theorem Rw.mk {W : World} {lo : Nat} {u v : Value} {l : List Int} (h : Kd.R (Kd.int .i64) 3 W lo (fun k => some k ≠ u.ownBlock) v l) : Rw W lo W.heap.size u v l := Kd.bV (Kd.fv h) (fun k hk => ⟨⟨hk.2.1, hk.2.2.1⟩, hk.1⟩)
theorem Rw.below {W W1 : World} {lo hi : Nat} {u v : Value} {l : List Int} (h : Rw W lo hi u v l) (hb : Below W.heap.size W W1) : Rw W1 lo hi u v l := Kd.cx h hb
theorem Rw.kept {W W1 : World} {lo hi lo' hi' : Nat} {u v : Value} {l : List Int} {S : Nat → Prop} (h : Rw W lo hi u v l) (hk : Kept W W1 S) (hS : ∀ k, S k → lo' ≤ k ∧ k < hi') (hd : hi ≤ lo' ∨ hi' ≤ lo) : Rw W1 lo hi u v l :=
  Kd.zK h hk (fun k hk h2 => by have := hS k h2; omega)
theorem Rw.reads {W : World} {lo hi n c : Nat} {A : Option Addr} {u : Value} {l : List Int} (h : Rw W lo hi u (.slice A n c) l) : Kd.C (Kd.int .i64) W A l.length l ∧ l.length ≤ c := by
  obtain ⟨h1, h2, h3⟩ := Kd.bZ h
  exact ⟨h3, by omega⟩
theorem Rw.front {W : World} {lo hi c : Nat} {A : Option Addr} {u : Value} {l sp : List Int} (h : Rw W lo hi u (.slice A (l ++ sp).length c) (l ++ sp)) : Rw W lo hi u (.slice A l.length c) l := by
  have := Kd.vh (m := l.length) h (by simp)
  rwa [List.take_left] at this
theorem Rw.own {W : World} {lo hi : Nat} {u v : Value} {l : List Int} (h : Rw W lo hi u v l) : Kd.R (Kd.int .i64) 3 W lo (fun k => some k = v.ownBlock ∧ (lo ≤ k ∧ k < hi) ∧ some k ≠ u.ownBlock) v l := Kd.zH rfl h
set_option maxHeartbeats 16000000 in
set_option maxRecDepth 100000 in
theorem nM.body (k : Nat) (a b : Int) (A2 : Option Addr) (c2 : Nat) (l2 : List Int) (A3 : Option Addr) (c3 : Nat) (l3 : List Int) (m : Int) (mv : Bool) (s : Int) (w : World) (hT : ej w)
    (hr2 : Kd.C (Kd.int .i64) w A2 l2.length l2) (hc2 : l2.length ≤ c2) (hr3 : Kd.C (Kd.int .i64) w A3 l3.length l3) (hc3 : l3.length ≤ c3)
    (left : Int) (hsz : eJ.f a b l2 l3 m mv s 1000000 = some left) (hleft : 0 ≤ left)
    (sp2 sp3 : List Int) (hto : ez.f k a b l2 l3 m mv s = some (a, b, l2 ++ sp2, l3 ++ sp3, m, mv, s))
    (htb : fU.f k a b l2 l3 m mv s true = some (a, b, l2, l3, m, mv, s))
    (m2 m3 : Int) (hm2 : cq.f (l2.length : Int) = some m2) (hn2 : wrap64 ((l2.length : Int) + m2) = ((l2 ++ sp2).length : Int)) (hm3 : cq.f (l3.length : Int) = some m3) (hn3 : wrap64 ((l3.length : Int) + m3) = ((l3 ++ sp3).length : Int))
    (he2 : bP.f k (l2 ++ sp2) (l2 ++ sp2) = some true) (he3 : bP.f k (l3 ++ sp3) (l3 ++ sp3) = some true)
    (r1 r2 : Int) (r3 r4 : List Int) (r5 : Bool) (hspec : bH.f k a b l2 l3 m mv s = some (r1, r2, r3, r4, r5)) (himpl : dY.f k a b l2 l3 m mv s = some (r1, r2, r3, r4, r5))
    (heq : eK.f k r1 r2 r3 r4 r1 r2 r3 r4 = some true)
    (pm : Int) (pl2 pl3 : List Int) (hmp : eY.f k a b l2 l3 m mv s 101 = some (pm, pl2, pl3)) (hpm : 0 ≤ pm)
    (q : Int) (g3 g4 : List Int) (hmf : dJ.f k r1 r2 r3 r4 101 = some (q, g3, g4)) (hhf : eE.f k r1 r2 g3 g4 101 = some q) (hq : 0 ≤ q) :
    Calls Tryz.prog 4 #[.agg #[.int .i64 a, .int .i64 b, .slice A2 l2.length c2, .slice A3 l3.length c3, .int .i64 m, .bool mv, .int .i64 s]] w fun e w' => e = .returned (.bool true) ∧ Below w.heap.size w w' := by
  have hu1 := Tryz.underlying26
  have hu2 := Tryz.underlying32
  have hu3 := Tryz.underlying28
  have hu4 := Tryz.underlying24
  have HT := aa.mk hT
  have R2 := aa.mk hr2
  have R3 := aa.mk hr3
  have HSZ := aa.mk hsz
  have HTO := aa.mk hto
  have HTB := aa.mk htb
  have HM2 := aa.mk hm2
  have HN2 := aa.mk hn2
  have HM3 := aa.mk hm3
  have HN3 := aa.mk hn3
  have HE2 := aa.mk he2
  have HE3 := aa.mk he3
  have HSP := aa.mk hspec
  have HIM := aa.mk himpl
  have HEQ := aa.mk heq
  have HMP := aa.mk hmp
  have HMF := aa.mk hmf
  have HHF := aa.mk hhf
  clear hT hr2 hr3 hsz hto htb hm2 hn2 hm3 hn3 he2 he3 hspec himpl heq hmp hmf hhf
  have t1 : decide (left < 0) = false := decide_eq_false (by omega)
  have t2 : (r5 != r5) = false := by simp
  have t3 : decide (pm < 0) = false := decide_eq_false (by omega)
  have t4 : decide (q < 0) = false := decide_eq_false (by omega)
  have t5 : (q != q) = false := by simp
  go_enter Tryz.func4, Tryz.ntmps4
  go_wp2_with fail
  obtain ⟨W, hW⟩ : ∃ W, w.alloc (.cells #[.int .i64 a, .int .i64 b, .slice A2 l2.length c2, .slice A3 l3.length c3, .int .i64 m, .bool mv, .int .i64 s] 26) = W := ⟨_, rfl⟩
  have HB := aa.mk (show Below w.heap.size w W by rw [← hW]; exact ag (Below.refl _ _) _)
  have HP := aa.mk (show W.heap[w.heap.size]? = some (pzO a b (.slice A2 l2.length c2) (.slice A3 l3.length c3) m mv s 26) by rw [← hW]; exact heap_alloc_new _ _)
  rw [hW]
  clear hW
  (with_reducible refine (eJ.calls a b A2 c2 l2 A3 c3 l3 m mv s 1000000 left W (Kd.ax R2.out HB.out) hc2 (Kd.ax R3.out HB.out) hc3 HSZ.out).mono ?_)
  rintro e W1 ⟨rfl, hb⟩
  have HB1 := aa.mk (HB.out.trans (hb.mono HB.out.size))
  have HP1 := aa.mk ((hb.block _ (a7 HP.out)).trans HP.out)
  clear hb HB HP
  obtain ⟨y0, y1, y2, y3, y4, y5, y6⟩ := ju HP1.out
  go_wp2_with fail
  (with_reducible refine (ez.calls k a b A2 c2 l2 A3 c3 l3 m mv s a b (l2 ++ sp2) (l3 ++ sp3) m mv s W1 (Kd.ax R2.out HB1.out) hc2 (Kd.ax R3.out HB1.out) hc3 HTO.out).mono ?_)
  rintro e W2 ⟨TA2, tc2, TA3, tc3, rfl, ho2, ho3, hb⟩
  have HB2 := aa.mk (HB1.out.trans (hb.mono HB1.out.size))
  have HP2 := aa.mk ((hb.block _ (a7 HP1.out)).trans HP1.out)
  have HT2 := aa.mk (Rw.reads (Rw.front (Rw.mk ho2)))
  have HT3 := aa.mk (Rw.reads (Rw.front (Rw.mk ho3)))
  clear hb ho2 ho3 HB1 HP1 y0 y1 y2 y3 y4 y5 y6
  go_wp2_with fail
  (with_reducible refine (bH.calls k a b TA2 tc2 l2 TA3 tc3 l3 m mv s r1 r2 r3 r4 r5 W2 HT2.out.1 HT2.out.2 HT3.out.1 HT3.out.2 HSP.out).mono ?_)
  rintro e W3 ⟨v2, v3, rfl, ho2, ho3, hb⟩
  have HB3 := aa.mk (HB2.out.trans (hb.mono HB2.out.size))
  have HP3 := aa.mk ((hb.block _ (a7 HP2.out)).trans HP2.out)
  obtain ⟨VA2, vc2, hv2⟩ := Kd.bE ho2
  obtain ⟨VA3, vc3, hv3⟩ := Kd.bE ho3
  subst hv2 hv3
  have HV2 := aa.mk (Rw.mk ho2)
  have HV3 := aa.mk (Rw.mk ho3)
  have HZ2 := aa.mk HB2.out.size
  have HZ3 := aa.mk hb.size
  clear hb ho2 ho3 HB2 HP2 HT2 HT3
  obtain ⟨y0, y1, y2, y3, y4, y5, y6⟩ := ju HP3.out
  have z1 : w.heap.size < W3.heap.size := a7 HP3.out
  have z2 : w.heap.size ≠ W3.heap.size := Nat.ne_of_lt z1
  have z3 : W3.heap.size ≠ w.heap.size := Nat.ne_of_gt z1
  go_wp2_with fail
  obtain ⟨W4, hW⟩ : ∃ W', W3.alloc (.cells #[.int .i64 r1, .int .i64 r2, .slice VA2 r3.length vc2, .slice VA3 r4.length vc3] 28) = W' := ⟨_, rfl⟩
  have hb : Below W3.heap.size W3 W4 := by rw [← hW]; exact ag (Below.refl _ _) _
  have HA4 := aa.mk (show W4.heap[W3.heap.size]? = some (fgO r1 r2 (.slice VA2 r3.length vc2) (.slice VA3 r4.length vc3) 28) by rw [← hW]; exact heap_alloc_new _ _)
  rw [hW]
  clear hW
  have HB4 := aa.mk (HB3.out.trans (hb.mono HB3.out.size))
  have HP4 := aa.mk ((hb.block _ (a7 HP3.out)).trans HP3.out)
  have FA := aa.mk (HV2.out.below hb)
  have Fo := aa.mk (HV3.out.below hb)
  have HZ4 := aa.mk (a7 HA4.out)
  have FW := aa.mk (show w.heap.size < W3.heap.size from a7 HP3.out)
  have HB4s := aa.mk HB4.out.size
  clear hb HB3 HP3 HV2 HV3 y0 y1 y2 y3 y4 y5 y6 z1 z2 z3
  (with_reducible refine (ez.calls k a b A2 c2 l2 A3 c3 l3 m mv s a b (l2 ++ sp2) (l3 ++ sp3) m mv s W4 (Kd.ax R2.out HB4.out) hc2 (Kd.ax R3.out HB4.out) hc3 HTO.out).mono ?_)
  rintro e W5 ⟨XA2, xc2, XA3, xc3, rfl, ho2, ho3, hb⟩
  have HB5 := aa.mk (HB4.out.trans (hb.mono HB4.out.size))
  have HP5 := aa.mk ((hb.block _ (a7 HP4.out)).trans HP4.out)
  have HA5 := aa.mk ((hb.block _ (a7 HA4.out)).trans HA4.out)
  have Fz := aa.mk (FA.out.below hb)
  have Fm := aa.mk (Fo.out.below hb)
  have Fb := aa.mk (Rw.mk ho2)
  have E7 := aa.mk (Rw.mk ho3)
  have HZ5 := aa.mk hb.size
  clear hb ho2 ho3 HB4 HP4 HA4 FA Fo
  go_wp2_with fail
  obtain ⟨W6, hW⟩ : ∃ W', W5.alloc (.cells #[.int .i64 a, .int .i64 b, .slice XA2 l2.length xc2, .slice XA3 l3.length xc3, .int .i64 m, .bool mv, .int .i64 s] 32) = W' := ⟨_, rfl⟩
  have hb : Below W5.heap.size W5 W6 := by rw [← hW]; exact ag (Below.refl _ _) _
  have HX6 := aa.mk (show W6.heap[W5.heap.size]? = some (pzO a b (.slice XA2 l2.length xc2) (.slice XA3 l3.length xc3) m mv s 32) by rw [← hW]; exact heap_alloc_new _ _)
  rw [hW]
  clear hW
  have HB6 := aa.mk (HB5.out.trans (hb.mono HB5.out.size))
  have HP6 := aa.mk ((hb.block _ (a7 HP5.out)).trans HP5.out)
  have HA6 := aa.mk ((hb.block _ (a7 HA5.out)).trans HA5.out)
  have Fy := aa.mk (Fz.out.below hb)
  have Fl := aa.mk (Fm.out.below hb)
  have CD := aa.mk (Fb.out.below hb)
  have CB := aa.mk (E7.out.below hb)
  have HZ6 := aa.mk (a7 HX6.out)
  have HB6s := aa.mk HB6.out.size
  clear hb HB5 HP5 HA5 Fz Fm Fb E7
  (with_reducible refine (dY.calls k a b XA2 xc2 l2 XA3 xc3 l3 m mv s r1 r2 r3 r4 r5 W6 (HT.out.below HB6.out) (Rw.reads (Rw.front CD.out)).1 (Rw.reads (Rw.front CD.out)).2 (Rw.reads (Rw.front CB.out)).1 (Rw.reads (Rw.front CB.out)).2 HIM.out).mono ?_)
  rintro e W7 ⟨v2, v3, rfl, ho2, ho3, hb⟩
  obtain ⟨GA2, gc2, hv2⟩ := Kd.bE ho2
  obtain ⟨GA3, gc3, hv3⟩ := Kd.bE ho3
  subst hv2 hv3
  have HB7 := aa.mk (HB6.out.trans (hb.mono HB6.out.size))
  have HP7 := aa.mk ((hb.block _ (a7 HP6.out)).trans HP6.out)
  have HA7 := aa.mk ((hb.block _ (a7 HA6.out)).trans HA6.out)
  have HX7 := aa.mk ((hb.block _ (a7 HX6.out)).trans HX6.out)
  have Fx := aa.mk (Fy.out.below hb)
  have Fk := aa.mk (Fl.out.below hb)
  have Fa := aa.mk (CD.out.below hb)
  have E6 := aa.mk (CB.out.below hb)
  have FU := aa.mk (Rw.mk ho2)
  have FP := aa.mk (Rw.mk ho3)
  have HZ7 := aa.mk hb.size
  clear hb ho2 ho3 HB6 HP6 HA6 HX6 Fy Fl CD CB
  obtain ⟨x0, x1, x2, x3⟩ := jE HA7.out
  have z1 : W3.heap.size < W7.heap.size := a7 HA7.out
  have z2 : W3.heap.size ≠ W7.heap.size := Nat.ne_of_lt z1
  have z3 : W7.heap.size ≠ W3.heap.size := Nat.ne_of_gt z1
  go_wp2_with fail
  obtain ⟨W8, hW⟩ : ∃ W', W7.alloc (.cells #[.int .i64 r1, .int .i64 r2, .slice GA2 r3.length gc2, .slice GA3 r4.length gc3] 28) = W' := ⟨_, rfl⟩
  have hb : Below W7.heap.size W7 W8 := by rw [← hW]; exact ag (Below.refl _ _) _
  have HG8 := aa.mk (show W8.heap[W7.heap.size]? = some (fgO r1 r2 (.slice GA2 r3.length gc2) (.slice GA3 r4.length gc3) 28) by rw [← hW]; exact heap_alloc_new _ _)
  rw [hW]
  clear hW
  have HB8 := aa.mk (HB7.out.trans (hb.mono HB7.out.size))
  have HP8 := aa.mk ((hb.block _ (a7 HP7.out)).trans HP7.out)
  have HA8 := aa.mk ((hb.block _ (a7 HA7.out)).trans HA7.out)
  have HX8 := aa.mk ((hb.block _ (a7 HX7.out)).trans HX7.out)
  have CH := aa.mk (Fx.out.below hb)
  have CF := aa.mk (Fk.out.below hb)
  have E9 := aa.mk (Fa.out.below hb)
  have E5 := aa.mk (E6.out.below hb)
  have CL := aa.mk (FU.out.below hb)
  have CJ := aa.mk (FP.out.below hb)
  have HZ8 := aa.mk (a7 HG8.out)
  clear hb HB7 HP7 HA7 HX7 Fx Fk Fa E6 FU FP x0 x1 x2 x3 z1 z2 z3
  (with_reducible refine (eK.calls k r1 r2 GA2 gc2 r3 GA3 gc3 r4 r1 r2 VA2 vc2 r3 VA3 vc3 r4 true W8 (Rw.reads CL.out).1 (Rw.reads CL.out).2 (Rw.reads CJ.out).1 (Rw.reads CJ.out).2 (Rw.reads CH.out).1 (Rw.reads CH.out).2 (Rw.reads CF.out).1 (Rw.reads CF.out).2 HEQ.out).mono ?_)
  rintro e W9 ⟨rfl, hb⟩
  have HB9 := aa.mk (HB8.out.trans (hb.mono HB8.out.size))
  have HP9 := aa.mk ((hb.block _ (a7 HP8.out)).trans HP8.out)
  have HA9 := aa.mk ((hb.block _ (a7 HA8.out)).trans HA8.out)
  have HX9 := aa.mk ((hb.block _ (a7 HX8.out)).trans HX8.out)
  have HG9 := aa.mk ((hb.block _ (a7 HG8.out)).trans HG8.out)
  have Fw := aa.mk (CH.out.below hb)
  have Fj := aa.mk (CF.out.below hb)
  have CC := aa.mk (E9.out.below hb)
  have CA := aa.mk (E5.out.below hb)
  have FT := aa.mk (CL.out.below hb)
  have FO := aa.mk (CJ.out.below hb)
  have HZ9 := aa.mk hb.size
  clear hb HB8 HP8 HA8 HX8 HG8 CH CF E9 E5 CL CJ
  go_wp2_with fail
  obtain ⟨y0, y1, y2, y3, y4, y5, y6⟩ := ju HP9.out
  obtain ⟨x0, x1, x2, x3, x4, x5, x6⟩ := ju HX9.out
  go_cut [41, 42, 43, 44, 45] (fun v41 v42 v43 v44 v45 wc => v45 = .bool false ∧ aa (Below W9.heap.size W9 wc))
  case first =>
    go_region_with ((first | (go_at_call 11; (with_reducible refine (ez.calls k a b A2 c2 l2 A3 c3 l3 m mv s a b (l2 ++ sp2) (l3 ++ sp3) m mv s _ ?s1 hc2 ?s3 hc3 HTO.out).mono ?_); (case s1 => refine Kd.ax (Kd.ax R2.out HB9.out) ?_; (repeat (first | exact Below.refl _ _ | apply iE | apply ah | apply af))); (case s3 => refine Kd.ax (Kd.ax R3.out HB9.out) ?_; (repeat (first | exact Below.refl _ _ | apply iE | apply ah | apply af))); rintro e W10 ⟨YA2, yc2, YA3, yc3, rfl, ho2, ho3, hb⟩; have HBY := aa.mk ((show Below W9.heap.size W9 W10 from Below.trans (by (repeat (first | exact Below.refl _ _ | apply iE | apply ah | apply af))) hb)); have HYX := aa.mk ((HBY.out.block _ (a7 HX9.out)).trans HX9.out); have HY2 := aa.mk (Rw.mk ho2); have HY3 := aa.mk (Rw.mk ho3); clear hb ho2 ho3; obtain ⟨p0, p1, p2, p3, p4, p5, p6⟩ := ju HYX.out) | (go_at_call 14; (with_reducible refine (mT k a b XA2 xc2 XA3 xc3 YA2 yc2 YA3 yc3 l2.length l3.length (l2 ++ sp2) (l3 ++ sp3) m2 m3 m mv s _ HM2.out HN2.out HM3.out HN3.out ?i1 (Rw.reads CC.out).2 ?i3 (Rw.reads CA.out).2 ?i5 (Rw.reads HY2.out).2 ?i7 (Rw.reads HY3.out).2 HE2.out HE3.out).mono ?_); (case i1 => exact Kd.ax (Rw.reads CC.out).1 HBY.out); (case i3 => exact Kd.ax (Rw.reads CA.out).1 HBY.out); (case i5 => exact (Rw.reads HY2.out).1); (case i7 => exact (Rw.reads HY3.out).1); rintro e W11 ⟨rfl, hb⟩; have HBZ := aa.mk (HBY.out.trans (hb.mono HBY.out.size)); clear hb)))
    all_goals (go_wp2_with fail; go_meet; case rel => exact ⟨rfl, ⟨by repeat (first | exact HBZ.out | apply iE | apply ah | apply af)⟩⟩)
  case rest =>
    clear y0 y1 y2 y3 y4 y5 y6 x0 x1 x2 x3 x4 x5 x6
    obtain ⟨rfl, hbc⟩ := hcut
    obtain ⟨WA, hWA⟩ : ∃ W', wc = W' := ⟨_, rfl⟩
    subst hWA
    have hb := hbc.out
    have HBA := aa.mk (HB9.out.trans (hb.mono HB9.out.size))
    have HPA := aa.mk ((hb.block _ (a7 HP9.out)).trans HP9.out)
    have HAA := aa.mk ((hb.block _ (a7 HA9.out)).trans HA9.out)
    have HXA := aa.mk ((hb.block _ (a7 HX9.out)).trans HX9.out)
    have HGA := aa.mk ((hb.block _ (a7 HG9.out)).trans HG9.out)
    have Fv := aa.mk (Fw.out.below hb)
    have Fi := aa.mk (Fj.out.below hb)
    have E8 := aa.mk (CC.out.below hb)
    have E0 := aa.mk (CA.out.below hb)
    have FR := aa.mk (FT.out.below hb)
    have FN := aa.mk (FO.out.below hb)
    have HZA := aa.mk hb.size
    clear hb hbc HB9 HP9 HA9 HX9 HG9 Fw Fj CC CA FT FO
    obtain ⟨x0, x1, x2, x3, x4, x5, x6⟩ := ju HXA.out
    go_wp2_with fail
    have hx2 : Rw wc W4.heap.size W5.heap.size (Value.slice XA3 (l3 ++ sp3).length xc3) (.slice XA2 l2.length xc2) l2 := Rw.front E8.out
    have hx3 : Rw wc W4.heap.size W5.heap.size (Value.slice XA2 (l2 ++ sp2).length xc2) (.slice XA3 l3.length xc3) l3 := Rw.front E0.out
    have hlo : w.heap.size ≤ W4.heap.size := HB4s.out
    have hp1 : ∀ k_, (some k_ = (Value.slice XA2 l2.length xc2).ownBlock ∧ (W4.heap.size ≤ k_ ∧ k_ < W5.heap.size) ∧ some k_ ≠ (Value.slice XA3 (l3 ++ sp3).length xc3).ownBlock) → ¬ (some k_ = (Value.slice XA3 l3.length xc3).ownBlock ∧ (W4.heap.size ≤ k_ ∧ k_ < W5.heap.size) ∧ some k_ ≠ (Value.slice XA2 (l2 ++ sp2).length xc2).ownBlock) := by rintro k_ ⟨_, _, h⟩ ⟨h2, _⟩; exact h (h2.trans (vw _ _ _ _))
    have hp2 : ∀ k_, (some k_ = (Value.slice XA3 l3.length xc3).ownBlock ∧ (W4.heap.size ≤ k_ ∧ k_ < W5.heap.size) ∧ some k_ ≠ (Value.slice XA2 (l2 ++ sp2).length xc2).ownBlock) → ¬ (some k_ = (Value.slice XA2 l2.length xc2).ownBlock ∧ (W4.heap.size ≤ k_ ∧ k_ < W5.heap.size) ∧ some k_ ≠ (Value.slice XA3 (l3 ++ sp3).length xc3).ownBlock) := by rintro k_ ⟨_, _, h⟩ ⟨h2, _⟩; exact h (h2.trans (vw _ _ _ _))
    (with_reducible refine (eY.calls k a b (fun k_ => some k_ = (Value.slice XA2 l2.length xc2).ownBlock ∧ (W4.heap.size ≤ k_ ∧ k_ < W5.heap.size) ∧ some k_ ≠ (Value.slice XA3 (l3 ++ sp3).length xc3).ownBlock) (.slice XA2 l2.length xc2) l2 (fun k_ => some k_ = (Value.slice XA3 l3.length xc3).ownBlock ∧ (W4.heap.size ≤ k_ ∧ k_ < W5.heap.size) ∧ some k_ ≠ (Value.slice XA2 (l2 ++ sp2).length xc2).ownBlock) (.slice XA3 l3.length xc3) l3 m mv s 101 pm pl2 pl3 w wc HBA.out (Kd.cW (Rw.own hx2) hlo) hp1 (Kd.cW (Rw.own hx3) hlo) hp2 HMP.out).mono ?_)
    rintro e WB ⟨rfl, ho2, ho3, hb, hk⟩
    have HBB := aa.mk hb
    have hk := hk.mono (S' := fun k_ => W4.heap.size ≤ k_ ∧ k_ < W5.heap.size) (fun k_ h => h.elim (fun h => h.2.1) (fun h => h.2.1))
    have HAB := aa.mk (im HAA.out hk (by have := HZ4.out; omega))
    have HGB := aa.mk (im HGA.out hk (by have := HZ6.out; have := HZ7.out; omega))
    have HPB := aa.mk (im HPA.out hk (by have := FW.out; have := HZ4.out; omega))
    have CG := aa.mk (Fv.out.kept hk (fun _ h => h) (.inl (Nat.le_of_lt HZ4.out)))
    have CE := aa.mk (Fi.out.kept hk (fun _ h => h) (.inl (Nat.le_of_lt HZ4.out)))
    have CK := aa.mk (FR.out.kept hk (fun _ h => h) (.inr (Nat.le_of_lt HZ6.out)))
    have CI := aa.mk (FN.out.kept hk (fun _ h => h) (.inr (Nat.le_of_lt HZ6.out)))
    have HZB := aa.mk hk.1
    clear hp1 hp2 hk hb ho2 ho3 hx2 hx3 hlo HBA HPA HAA HXA HGA Fv Fi E8 E0 FR FN x0 x1 x2 x3 x4 x5 x6
    obtain ⟨x0, x1, x2, x3⟩ := jE HAB.out
    obtain ⟨y0, y1, y2, y3⟩ := jE HGB.out
    go_wp2_with fail
    (with_reducible refine (eK.calls k r1 r2 GA2 gc2 r3 GA3 gc3 r4 r1 r2 VA2 vc2 r3 VA3 vc3 r4 true WB (Rw.reads CK.out).1 (Rw.reads CK.out).2 (Rw.reads CI.out).1 (Rw.reads CI.out).2 (Rw.reads CG.out).1 (Rw.reads CG.out).2 (Rw.reads CE.out).1 (Rw.reads CE.out).2 HEQ.out).mono ?_)
    rintro e WC ⟨rfl, hb⟩
    have HBC := aa.mk (HBB.out.trans (hb.mono HBB.out.size))
    have HPC := aa.mk ((hb.block _ (a7 HPB.out)).trans HPB.out)
    have HAC := aa.mk ((hb.block _ (a7 HAB.out)).trans HAB.out)
    have HGC := aa.mk ((hb.block _ (a7 HGB.out)).trans HGB.out)
    have Fu := aa.mk (CG.out.below hb)
    have Fh := aa.mk (CE.out.below hb)
    have FQ := aa.mk (CK.out.below hb)
    have FM := aa.mk (CI.out.below hb)
    have HZC := aa.mk hb.size
    clear hb HBB HPB HAB HGB CG CE CK CI x0 x1 x2 x3 y0 y1 y2 y3
    obtain ⟨y0, y1, y2, y3⟩ := jE HGC.out
    go_wp2_with fail
    have hlo : w.heap.size ≤ W6.heap.size := HB6s.out
    have hp1 : ∀ k_, (some k_ = (Value.slice GA2 r3.length gc2).ownBlock ∧ (W6.heap.size ≤ k_ ∧ k_ < W7.heap.size) ∧ some k_ ≠ (Value.slice GA3 r4.length gc3).ownBlock) → ¬ (some k_ = (Value.slice GA3 r4.length gc3).ownBlock ∧ (W6.heap.size ≤ k_ ∧ k_ < W7.heap.size) ∧ some k_ ≠ (Value.slice GA2 r3.length gc2).ownBlock) := by rintro k_ ⟨_, _, h⟩ ⟨h2, _⟩; exact h h2
    have hp2 : ∀ k_, (some k_ = (Value.slice GA3 r4.length gc3).ownBlock ∧ (W6.heap.size ≤ k_ ∧ k_ < W7.heap.size) ∧ some k_ ≠ (Value.slice GA2 r3.length gc2).ownBlock) → ¬ (some k_ = (Value.slice GA2 r3.length gc2).ownBlock ∧ (W6.heap.size ≤ k_ ∧ k_ < W7.heap.size) ∧ some k_ ≠ (Value.slice GA3 r4.length gc3).ownBlock) := by rintro k_ ⟨_, _, h⟩ ⟨h2, _⟩; exact h h2
    (with_reducible refine (dJ.calls k r1 r2 (fun k_ => some k_ = (Value.slice GA2 r3.length gc2).ownBlock ∧ (W6.heap.size ≤ k_ ∧ k_ < W7.heap.size) ∧ some k_ ≠ (Value.slice GA3 r4.length gc3).ownBlock) (.slice GA2 r3.length gc2) r3 (fun k_ => some k_ = (Value.slice GA3 r4.length gc3).ownBlock ∧ (W6.heap.size ≤ k_ ∧ k_ < W7.heap.size) ∧ some k_ ≠ (Value.slice GA2 r3.length gc2).ownBlock) (.slice GA3 r4.length gc3) r4 101 q g3 g4 w WC HBC.out (Kd.cW (Rw.own FQ.out) hlo) hp1 (Kd.cW (Rw.own FM.out) hlo) hp2 HMF.out).mono ?_)
    rintro e WD ⟨rfl, ho2, ho3, hb, hk⟩
    have HBD := aa.mk hb
    have hk := hk.mono (S' := fun k_ => W6.heap.size ≤ k_ ∧ k_ < W7.heap.size) (fun k_ h => h.elim (fun h => h.2.1) (fun h => h.2.1))
    have HAD := aa.mk (im HAC.out hk (by have := HZ4.out; have := HZ5.out; have := HZ6.out; omega))
    have HGD := aa.mk (im HGC.out hk (by omega))
    have HPD := aa.mk (im HPC.out hk (by have := FW.out; have := HZ4.out; have := HZ5.out; have := HZ6.out; omega))
    have Ft := aa.mk (Fu.out.kept hk (fun _ h => h) (.inl (by have := HZ4.out; have := HZ5.out; have := HZ6.out; omega)))
    have Fg := aa.mk (Fh.out.kept hk (fun _ h => h) (.inl (by have := HZ4.out; have := HZ5.out; have := HZ6.out; omega)))
    obtain ⟨e3, d3, i3⟩ := Kd.bZ ho2
    obtain ⟨e4, d4, i4⟩ := Kd.bZ ho3
    have E3 := aa.mk e3
    have E4 := aa.mk e4
    have D3 := aa.mk (show g3.length ≤ gc2 by omega)
    have D4 := aa.mk (show g4.length ≤ gc3 by omega)
    have I3 := aa.mk i3
    have I4 := aa.mk i4
    clear hp1 hp2 hk hb ho2 ho3 hlo e3 d3 i3 e4 d4 i4 HBC HPC HAC HGC Fu Fh FQ FM y0 y1 y2 y3
    obtain ⟨y0, y1, y2, y3⟩ := jE HGD.out
    go_wp2_with fail
    (with_reducible refine mr (args' := #[.agg #[.int .i64 r1, .int .i64 r2, .slice GA2 g3.length gc2, .slice GA3 g4.length gc3], .int .i64 101]) (by rw [E3.out, E4.out]) ?_)
    (with_reducible refine (eE.calls k r1 r2 GA2 gc2 g3 GA3 gc3 g4 101 q WD I3.out D3.out I4.out D4.out HHF.out).mono ?_)
    rintro e WE ⟨rfl, hb⟩
    have HBE := aa.mk (HBD.out.trans (hb.mono HBD.out.size))
    have HPE := aa.mk ((hb.block _ (a7 HPD.out)).trans HPD.out)
    have HAE := aa.mk ((hb.block _ (a7 HAD.out)).trans HAD.out)
    have HGE := aa.mk ((hb.block _ (a7 HGD.out)).trans HGD.out)
    have Fs := aa.mk (Ft.out.below hb)
    have Ff := aa.mk (Fg.out.below hb)
    have I3E := aa.mk (Kd.ax I3.out hb)
    have I4E := aa.mk (Kd.ax I4.out hb)
    clear hb HBD HPD HAD HGD Ft Fg I3 I4 y0 y1 y2 y3
    obtain ⟨y0, y1, y2, y3, y4, y5, y6⟩ := ju HPE.out
    go_wp2_with fail
    (with_reducible refine (fU.calls k a b A2 c2 l2 A3 c3 l3 m mv s true a b l2 l3 m mv s WE (Kd.ax R2.out HBE.out) hc2 (Kd.ax R3.out HBE.out) hc3 HTB.out).mono ?_)
    rintro e WF ⟨v2, v3, rfl, ho2, ho3, hb⟩
    obtain ⟨QA2, qc2, hv2⟩ := Kd.bE ho2
    obtain ⟨QA3, qc3, hv3⟩ := Kd.bE ho3
    subst hv2 hv3
    have HBF := aa.mk (HBE.out.trans (hb.mono HBE.out.size))
    have HAF := aa.mk ((hb.block _ (a7 HAE.out)).trans HAE.out)
    have HGF := aa.mk ((hb.block _ (a7 HGE.out)).trans HGE.out)
    have Fq := aa.mk (Fs.out.below hb)
    have Fe := aa.mk (Ff.out.below hb)
    have I3F := aa.mk (Kd.ax I3E.out hb)
    have I4F := aa.mk (Kd.ax I4E.out hb)
    have HQ2 := aa.mk (Rw.reads (Rw.mk ho2))
    have HQ3 := aa.mk (Rw.reads (Rw.mk ho3))
    clear hb ho2 ho3 HBE HPE HAE HGE Fs Ff I3E I4E y0 y1 y2 y3 y4 y5 y6
    go_wp2_with fail
    (with_reducible refine (dY.calls k a b QA2 qc2 l2 QA3 qc3 l3 m mv s r1 r2 r3 r4 r5 WF (HT.out.below HBF.out) HQ2.out.1 HQ2.out.2 HQ3.out.1 HQ3.out.2 HIM.out).mono ?_)
    rintro e WG ⟨v2, v3, rfl, ho2, ho3, hb⟩
    obtain ⟨JA2, jc2, hv2⟩ := Kd.bE ho2
    obtain ⟨JA3, jc3, hv3⟩ := Kd.bE ho3
    subst hv2 hv3
    have HBG := aa.mk (HBF.out.trans (hb.mono HBF.out.size))
    have HAG := aa.mk ((hb.block _ (a7 HAF.out)).trans HAF.out)
    have HGG := aa.mk ((hb.block _ (a7 HGF.out)).trans HGF.out)
    have Fp := aa.mk (Fq.out.below hb)
    have Fc := aa.mk (Fe.out.below hb)
    have I3G := aa.mk (Kd.ax I3F.out hb)
    have I4G := aa.mk (Kd.ax I4F.out hb)
    have HJ2 := aa.mk (Rw.mk ho2)
    have HJ3 := aa.mk (Rw.mk ho3)
    clear hb ho2 ho3 HBF HAF HGF Fq Fe I3F I4F HQ2 HQ3
    obtain ⟨x0, x1, x2, x3⟩ := jE HAG.out
    have z1 : W3.heap.size < WG.heap.size := a7 HAG.out
    have z2 : W3.heap.size ≠ WG.heap.size := Nat.ne_of_lt z1
    have z3 : WG.heap.size ≠ W3.heap.size := Nat.ne_of_gt z1
    go_wp2_with fail
    obtain ⟨WH, hW⟩ : ∃ W', WG.alloc (.cells #[.int .i64 r1, .int .i64 r2, .slice JA2 r3.length jc2, .slice JA3 r4.length jc3] 28) = W' := ⟨_, rfl⟩
    have hb : Below WG.heap.size WG WH := by rw [← hW]; exact ag (Below.refl _ _) _
    rw [hW]
    clear hW
    have HBH := aa.mk (HBG.out.trans (hb.mono HBG.out.size))
    have HGH := aa.mk ((hb.block _ (a7 HGG.out)).trans HGG.out)
    have Ed := aa.mk (Fp.out.below hb)
    have Ec := aa.mk (Fc.out.below hb)
    have Ef := aa.mk (HJ2.out.below hb)
    have Ee := aa.mk (HJ3.out.below hb)
    have I3H := aa.mk (Kd.ax I3G.out hb)
    have I4H := aa.mk (Kd.ax I4G.out hb)
    clear hb HBG HAG HGG Fp Fc I3G I4G HJ2 HJ3 x0 x1 x2 x3 z1 z2 z3
    (with_reducible refine (eK.calls k r1 r2 JA2 jc2 r3 JA3 jc3 r4 r1 r2 VA2 vc2 r3 VA3 vc3 r4 true WH (Rw.reads Ef.out).1 (Rw.reads Ef.out).2 (Rw.reads Ee.out).1 (Rw.reads Ee.out).2 (Rw.reads Ed.out).1 (Rw.reads Ed.out).2 (Rw.reads Ec.out).1 (Rw.reads Ec.out).2 HEQ.out).mono ?_)
    rintro e WI ⟨rfl, hb⟩
    have HBI := aa.mk (HBH.out.trans (hb.mono HBH.out.size))
    have HGI := aa.mk ((hb.block _ (a7 HGH.out)).trans HGH.out)
    have I3I := aa.mk (Kd.ax I3H.out hb)
    have I4I := aa.mk (Kd.ax I4H.out hb)
    clear hb HBH HGH Ed Ec Ef Ee I3H I4H
    obtain ⟨y0, y1, y2, y3⟩ := jE HGI.out
    go_wp2_with fail
    (with_reducible refine mr (args' := #[.agg #[.int .i64 r1, .int .i64 r2, .slice GA2 g3.length gc2, .slice GA3 g4.length gc3], .int .i64 101]) (by rw [E3.out, E4.out]) ?_)
    (with_reducible refine (eE.calls k r1 r2 GA2 gc2 g3 GA3 gc3 g4 101 q WI I3I.out D3.out I4I.out D4.out HHF.out).mono ?_)
    rintro e WJ ⟨rfl, hb⟩
    have HBJ := aa.mk (HBI.out.trans (hb.mono HBI.out.size))
    clear hb HBI HGI y0 y1 y2 y3
    go_wp2
    go_ret
    exact ⟨rfl, HBJ.out⟩
set_option maxHeartbeats 16000000 in
set_option maxRecDepth 100000 in
theorem nM.short (a b : Int) (A2 : Option Addr) (c2 : Nat) (l2 : List Int) (A3 : Option Addr) (c3 : Nat) (l3 : List Int) (m : Int) (mv : Bool) (s : Int) (w : World)
    (hr2 : Kd.C (Kd.int .i64) w A2 l2.length l2) (hc2 : l2.length ≤ c2) (hr3 : Kd.C (Kd.int .i64) w A3 l3.length l3) (hc3 : l3.length ≤ c3)
    (left : Int) (hsz : eJ.f a b l2 l3 m mv s 1000000 = some left) (hleft : left < 0) :
    Calls Tryz.prog 4 #[.agg #[.int .i64 a, .int .i64 b, .slice A2 l2.length c2, .slice A3 l3.length c3, .int .i64 m, .bool mv, .int .i64 s]] w fun e w' => e = .returned (.bool true) ∧ Below w.heap.size w w' := by
  have hu1 := Tryz.underlying26
  have hu4 := Tryz.underlying24
  have R2 := aa.mk hr2
  have R3 := aa.mk hr3
  have HSZ := aa.mk hsz
  clear hr2 hr3 hsz
  have t1 : decide (left < 0) = true := decide_eq_true hleft
  go_enter Tryz.func4, Tryz.ntmps4
  go_wp2_with fail
  obtain ⟨W, hW⟩ : ∃ W, w.alloc (.cells #[.int .i64 a, .int .i64 b, .slice A2 l2.length c2, .slice A3 l3.length c3, .int .i64 m, .bool mv, .int .i64 s] 26) = W := ⟨_, rfl⟩
  have HB := aa.mk (show Below w.heap.size w W by rw [← hW]; exact ag (Below.refl _ _) _)
  rw [hW]
  clear hW
  (with_reducible refine (eJ.calls a b A2 c2 l2 A3 c3 l3 m mv s 1000000 left W (Kd.ax R2.out HB.out) hc2 (Kd.ax R3.out HB.out) hc3 HSZ.out).mono ?_)
  rintro e W1 ⟨rfl, hb⟩
  have HB1 := aa.mk (HB.out.trans (hb.mono HB.out.size))
  clear hb HB
  go_wp2
  go_ret
  exact ⟨rfl, HB1.out⟩
end Go.Proofs.YtmjlmloomkodpaaGreatDoor.PA
namespace Go.Proofs.YtmjlmloomkodpaaGreatDoor.Bt
open Go
def nd (a b : Nat) : Nat := a ^^^ (a &&& b)
theorem eP (a b i : Nat) : (nd a b).testBit i = (a.testBit i && !b.testBit i) := by
  unfold nd
  rw [Nat.testBit_xor, Nat.testBit_and]
  cases a.testBit i <;> cases b.testBit i <;> rfl
theorem Es (a b : Nat) : nd a b ≤ a := by
  apply Nat.le_of_testBit
  intro i h
  rw [eP] at h
  simp only [Bool.and_eq_true] at h
  exact h.1
theorem k6 {a b n : Nat} (h : a < n) : nd a b < n := Nat.lt_of_le_of_lt (Es a b) h
theorem qC (b i : Nat) (hb : b < 2 ^ 64) : (2 ^ 64 - 1 - b).testBit i = (decide (i < 64) && !b.testBit i) := by
  have := Nat.testBit_two_pow_sub_succ hb i
  rwa [show 2 ^ 64 - (b + 1) = 2 ^ 64 - 1 - b by omega] at this
theorem En (n : Int) (h0 : 0 ≤ n) (h1 : n < 2 ^ 62) : IntKind.u64.wrap n = n := by
  simp [IntKind.wrap, IntKind.bits, IntKind.signed]
  omega
theorem Eo (n : Int) (h0 : 0 ≤ n) (h1 : n < 2 ^ 62) : IntKind.i64.wrap n = n := by
  rw [IntKind.wrap_i64]
  omega
def K6 (k : IntKind) : Prop := k = .u64 ∨ k = .i64
theorem K6.u : K6 .u64 := .inl rfl
theorem K6.i : K6 .i64 := .inr rfl
theorem K6.wrap {k : IntKind} (h : K6 k) (n : Nat) (h1 : n < 2 ^ 62) : k.wrap (n : Int) = n := by
  have h2 : (n : Int) < 2 ^ 62 := by exact_mod_cast h1
  rcases h with rfl | rfl
  · exact En _ (Int.natCast_nonneg _) h2
  · exact Eo _ (Int.natCast_nonneg _) h2
theorem K6.bits {k : IntKind} (h : K6 k) : k.bits = 64 := by rcases h with rfl | rfl <;> rfl
theorem lJ {k : IntKind} (h : K6 k) (a b : Nat) (ha : a < 2 ^ 62) (hb : b < 2 ^ 62) : bits .and k (a : Int) (b : Int) = ((a &&& b : Nat) : Int) :=
  (bits_nat k 62 (by rw [h.bits]; decide) (fun n h0 h1 => by
    obtain ⟨m, rfl⟩ := Int.eq_ofNat_of_zero_le h0
    exact h.wrap m (by exact_mod_cast h1)) a b ha hb).1
theorem qE {k : IntKind} (h : K6 k) (a b : Nat) (ha : a < 2 ^ 62) (hb : b < 2 ^ 62) : bits .or k (a : Int) (b : Int) = ((a ||| b : Nat) : Int) :=
  (bits_nat k 62 (by rw [h.bits]; decide) (fun n h0 h1 => by
    obtain ⟨m, rfl⟩ := Int.eq_ofNat_of_zero_le h0
    exact h.wrap m (by exact_mod_cast h1)) a b ha hb).2
theorem sT {k : IntKind} (h : K6 k) (a b : Nat) (ha : a < 2 ^ 62) (hb : b < 2 ^ 62) : bits .andNot k (a : Int) (b : Int) = ((nd a b : Nat) : Int) := by
  have h64 : (2 : Nat) ^ 62 ≤ 2 ^ 64 := Nat.pow_le_pow_right (by decide) (by decide)
  have e : a &&& (2 ^ 64 - 1 - b) = nd a b := by
    apply Nat.eq_of_testBit_eq
    intro i
    rw [Nat.testBit_and, qC b i (Nat.lt_of_lt_of_le hb h64), eP]
    by_cases hi : i < 64
    · simp [hi]
    · have : a.testBit i = false := Nat.testBit_lt_two_pow (Nat.lt_of_lt_of_le (Nat.lt_of_lt_of_le ha h64) (Nat.pow_le_pow_right (by decide) (by omega)))
      simp [this]
  have hk := h.wrap (nd a b) (k6 ha)
  have e2 : bits .andNot k (a : Int) (b : Int) = k.wrap (((a &&& (2 ^ 64 - 1 - b) : Nat) : Int)) := by
    simp only [bits, BitVec.ofInt_natCast, BitVec.toNat_and, BitVec.toNat_not, BitVec.toNat_ofNat]
    rw [h.bits, Nat.mod_eq_of_lt (Nat.lt_of_lt_of_le ha h64), Nat.mod_eq_of_lt (Nat.lt_of_lt_of_le hb h64)]
  rw [e2, e, hk]
end Go.Proofs.YtmjlmloomkodpaaGreatDoor.Bt
namespace Go.Proofs.YtmjlmloomkodpaaGreatDoor.Bt
open Go
def ev (n m : Nat) : List Nat := (List.range n).filter (fun i => m.testBit i)
def val : List Nat → Nat
  | [] => 0
  | b :: t => 256 * val t + b
def msk : Nat → Nat → Nat
  | 0, _ => 0
  | n + 1, c => 256 * msk n c + c
theorem kj (x b M c : Nat) (hb : b < 256) (hc : c < 256) : (256 * x + b) &&& (256 * M + c) = 256 * (x &&& M) + (b &&& c) := by
  have h1 : b &&& c < 2 ^ 8 := Nat.lt_of_le_of_lt Nat.and_le_left hb
  apply Nat.eq_of_testBit_eq
  intro i
  have e1 := Nat.testBit_two_pow_mul_add x (i := 8) hb i
  have e2 := Nat.testBit_two_pow_mul_add M (i := 8) hc i
  have e3 := Nat.testBit_two_pow_mul_add (x &&& M) (i := 8) h1 i
  rw [show (2 : Nat) ^ 8 = 256 by decide] at e1 e2 e3
  rw [Nat.testBit_and, e1, e2, e3]
  by_cases hi : i < 8
  · simp [hi]
  · simp [hi]
def f1 (b : Nat) : Nat := (b / 2 &&& 85) + (b &&& 85)
def f2 (b : Nat) : Nat := (b / 4 &&& 51) + (b &&& 51)
def f3 (b : Nat) : Nat := (b / 16 + b) % 16
theorem c1 : ∀ v, v < 2 → ∀ b, b < 256 → (128 * v + b / 2) &&& 85 = b / 2 &&& 85 := by decide +kernel
theorem c2 : ∀ v, v < 4 → ∀ b, b < 256 → (64 * v + b / 4) &&& 51 = b / 4 &&& 51 := by decide +kernel
theorem c3 : ∀ b, b < 256 → b &&& 15 = b % 16 := by decide +kernel
def pop8 (b : Nat) : Nat := (ev 8 b).length
theorem zo : ∀ b, b < 256 → f1 b < 256 ∧ f2 (f1 b) < 256 ∧ f2 (f1 b) % 16 ≤ 4 ∧ f2 (f1 b) / 16 ≤ 4 ∧ f3 (f2 (f1 b)) = pop8 b ∧ pop8 b ≤ 8 := by decide +kernel
theorem s1 : ∀ bs : List Nat, (∀ b ∈ bs, b < 256) → (val bs / 2 &&& msk bs.length 85) + (val bs &&& msk bs.length 85) = val (bs.map f1)
  | [], _ => rfl
  | b :: t, h => by
    have hb := h b List.mem_cons_self
    have ih := s1 t (fun x hx => h x (List.mem_cons_of_mem _ hx))
    simp only [val, msk, List.length_cons, List.map_cons]
    rw [show (256 * val t + b) / 2 = 256 * (val t / 2) + (128 * (val t % 2) + b / 2) by omega, kj _ _ _ _ (by omega) (by decide), kj _ _ _ _ hb (by decide),
      c1 _ (Nat.mod_lt _ (by decide)) b hb, ← ih]
    unfold f1
    omega
theorem s2 : ∀ bs : List Nat, (∀ b ∈ bs, b < 256) → (val bs / 4 &&& msk bs.length 51) + (val bs &&& msk bs.length 51) = val (bs.map f2)
  | [], _ => rfl
  | b :: t, h => by
    have hb := h b List.mem_cons_self
    have ih := s2 t (fun x hx => h x (List.mem_cons_of_mem _ hx))
    simp only [val, msk, List.length_cons, List.map_cons]
    rw [show (256 * val t + b) / 4 = 256 * (val t / 4) + (64 * (val t % 4) + b / 4) by omega, kj _ _ _ _ (by omega) (by decide), kj _ _ _ _ hb (by decide),
      c2 _ (Nat.mod_lt _ (by decide)) b hb, ← ih]
    unfold f2
    omega
theorem val_mod : ∀ bs : List Nat, (∀ b ∈ bs, b % 16 ≤ 4) → val bs % 16 ≤ 4
  | [], _ => by simp [val]
  | b :: t, h => by
    have := h b List.mem_cons_self
    simp only [val]
    omega
theorem s3 : ∀ bs : List Nat, (∀ b ∈ bs, b % 16 ≤ 4 ∧ b / 16 ≤ 4) → (val bs / 16 + val bs) &&& msk bs.length 15 = val (bs.map f3)
  | [], _ => rfl
  | b :: t, h => by
    have hb := h b List.mem_cons_self
    have hv := val_mod t (fun x hx => (h x (List.mem_cons_of_mem _ hx)).1)
    have ih := s3 t (fun x hx => h x (List.mem_cons_of_mem _ hx))
    simp only [val, msk, List.length_cons, List.map_cons]
    rw [show (256 * val t + b) / 16 + (256 * val t + b) = 256 * (val t / 16 + val t) + (16 * (val t % 16) + b / 16 + b) by omega, kj _ _ _ _ (by omega) (by decide), ih,
      c3 _ (by omega)]
    unfold f3
    omega
def gU (x : Nat) : List Nat := [x % 256, x / 256 % 256, x / 65536 % 256, x / 16777216 % 256, x / 4294967296 % 256, x / 1099511627776 % 256, x / 281474976710656 % 256, x / 72057594037927936 % 256]
theorem uw (x : Nat) (h : x < 18446744073709551616) : val (gU x) = x := by
  simp only [gU, val]
  omega
theorem uH (n x b : Nat) (hb : b < 256) : (ev (8 + n) (256 * x + b)).length = (ev 8 b).length + (ev n x).length := by
  unfold ev
  rw [List.range_add, List.filter_append, List.length_append, List.filter_map, List.length_map]
  congr 1
  · congr 1
    apply List.filter_congr
    intro i hi
    have hi := List.mem_range.1 hi
    have e := Nat.testBit_two_pow_mul_add x (i := 8) hb i
    rw [show (2 : Nat) ^ 8 = 256 by decide, if_pos hi] at e
    rw [e]
  · congr 1
    apply List.filter_congr
    intro i hi
    have e := Nat.testBit_two_pow_mul_add x (i := 8) hb (8 + i)
    rw [show (2 : Nat) ^ 8 = 256 by decide, if_neg (by omega), Nat.add_sub_cancel_left] at e
    simp only [Function.comp]
    rw [e]
theorem tA : ∀ bs : List Nat, (∀ b ∈ bs, b < 256) → (ev (8 * bs.length) (val bs)).length = (bs.map pop8).sum
  | [], _ => rfl
  | b :: t, h => by
    have ih := tA t (fun x hx => h x (List.mem_cons_of_mem _ hx))
    rw [List.length_cons, show 8 * (t.length + 1) = 8 + 8 * t.length by omega, val, uH _ _ _ (h b List.mem_cons_self), ih, List.map_cons, List.sum_cons]
    rfl
theorem vc (z q r m : Nat) (hm : 0 < m) (hz : z = m * q + r) (hr : r < m) : z / m = q := by
  subst hz
  rw [Nat.mul_add_div hm, Nat.div_eq_of_lt hr, Nat.add_zero]
set_option maxHeartbeats 1000000 in
theorem sum8 (a b c d e f g h : Nat) (ha : a ≤ 8) (hb : b ≤ 8) (hc : c ≤ 8) (hd : d ≤ 8) (he : e ≤ 8) (hf : f ≤ 8) (hg : g ≤ 8) (hh : h ≤ 8) (z z2 z3 z4 : Nat) (hz : z = val [a, b, c, d, e, f, g, h])
    (h2 : z2 = z + z / 256) (h3 : z3 = z2 + z2 / 65536) (h4 : z4 = z3 + z3 / 4294967296) : z4 < 2 ^ 62 ∧ z4 % 128 = a + b + c + d + e + f + g + h := by
  simp only [val] at hz
  rw [vc z (256 * (256 * (256 * (256 * (256 * (256 * h + g) + f) + e) + d) + c) + b) a 256 (by decide) (by rw [hz]; omega) (by omega)] at h2
  rw [vc z2 (256 * (256 * (256 * (256 * (256 * h + (g + h)) + (f + g)) + (e + f)) + (d + e)) + (c + d)) (256 * (b + c) + (a + b)) 65536 (by decide) (by rw [h2, hz]; omega) (by omega)] at h3
  rw [vc z3 (256 * (256 * (256 * h + (g + h)) + (f + g + h)) + (e + f + g + h)) (256 * (256 * (256 * (d + e + f + g) + (c + d + e + f)) + (b + c + d + e)) + (a + b + c + d)) 4294967296 (by decide) (by rw [h3, h2, hz]; omega) (by omega)] at h4
  subst hz h2 h3 h4
  constructor
  · omega
  · omega
theorem AA (x y1 y2 y3 z2 z3 z4 : Nat) (h : x < 18446744073709551616) (h1 : y1 = (x / 2 &&& 6148914691236517205) + (x &&& 6148914691236517205)) (h2 : y2 = (y1 / 4 &&& 3689348814741910323) + (y1 &&& 3689348814741910323))
    (h3 : y3 = (y2 / 16 + y2) &&& 1085102592571150095) (h4 : z2 = y3 + y3 / 256) (h5 : z3 = z2 + z2 / 65536) (h6 : z4 = z3 + z3 / 4294967296) : z4 < 2 ^ 62 ∧ z4 % 128 = (ev 64 x).length := by
  have hb : ∀ b ∈ gU x, b < 256 := by
    intro b hb
    simp only [gU, List.mem_cons, List.not_mem_nil, or_false] at hb
    omega
  have e0 := uw x h
  have hl : (gU x).length = 8 := rfl
  have t1 := s1 (gU x) hb
  rw [e0, hl, show msk 8 85 = 6148914691236517205 by decide +kernel, ← h1] at t1
  have t2 := s2 ((gU x).map f1) (by
    intro b hb'
    obtain ⟨c, hc, rfl⟩ := List.mem_map.1 hb'
    exact (zo c (hb c hc)).1)
  rw [List.length_map, hl, ← t1, show msk 8 51 = 3689348814741910323 by decide +kernel, ← h2, List.map_map] at t2
  have t3 := s3 ((gU x).map (f2 ∘ f1)) (by
    intro b hb'
    obtain ⟨c, hc, rfl⟩ := List.mem_map.1 hb'
    exact ⟨(zo c (hb c hc)).2.2.1, (zo c (hb c hc)).2.2.2.1⟩)
  rw [List.length_map, hl, ← t2, show msk 8 15 = 1085102592571150095 by decide +kernel, ← h3, List.map_map] at t3
  have t4 : (gU x).map (f3 ∘ (f2 ∘ f1)) = (gU x).map pop8 := List.map_congr_left (fun c hc => (zo c (hb c hc)).2.2.2.2.1)
  rw [t4] at t3
  have t5 := tA (gU x) hb
  rw [hl, e0] at t5
  have l8 : ∀ b ∈ gU x, pop8 b ≤ 8 := fun b hb' => (zo b (hb b hb')).2.2.2.2.2
  simp only [gU, List.mem_cons, List.not_mem_nil, or_false, forall_eq_or_imp, forall_eq] at l8
  simp only [gU, List.map_cons, List.map_nil] at t3
  simp only [gU, List.map_cons, List.map_nil, List.sum_cons, List.sum_nil] at t5
  obtain ⟨q0, q1, q2, q3, q4, q5, q6, q7⟩ := l8
  have := sum8 _ _ _ _ _ _ _ _ q0 q1 q2 q3 q4 q5 q6 q7 y3 z2 z3 z4 t3 h4 h5 h6
  refine ⟨this.1, this.2.trans ?_⟩
  rw [show (64 : Nat) = 8 * 8 by rfl, t5]
  omega
end Go.Proofs.YtmjlmloomkodpaaGreatDoor.Bt
namespace Go.Proofs.YtmjlmloomkodpaaGreatDoor.Bt
open Go
theorem vC (m : Nat) (h0 : 0 < m) (h1 : m < 2 ^ 64) : Lib.ctz 64 m < 64 ∧ m.testBit (Lib.ctz 64 m) = true ∧ (∀ i, i < Lib.ctz 64 m → m.testBit i = false) ∧ ∀ i, (m &&& (m - 1)).testBit i = (m.testBit i && decide (i ≠ Lib.ctz 64 m)) := by
  have hc : Lib.ctz 64 m = Lib.ctzFrom 64 m := by unfold Lib.ctz; rw [if_neg (by omega)]
  obtain ⟨q, hq, ht⟩ := Lib.ctzFrom_spec 64 m h0 h1
  rw [← hc] at hq ht
  generalize Lib.ctz 64 m = t at hq ht
  have e1 : ∀ i, m.testBit i = (decide (i ≥ t) && (2 * q + 1).testBit (i - t)) := fun i => by rw [hq]; exact Nat.testBit_two_pow_mul
  have hp : 0 < 2 ^ t := Nat.two_pow_pos t
  have e2 : m - 1 = 2 ^ t * (2 * q) + (2 ^ t - 1) := by
    rw [hq, Nat.mul_add, Nat.mul_one]
    omega
  have e3 := fun i => Nat.testBit_two_pow_mul_add (2 * q) (i := t) (b := 2 ^ t - 1) (by omega) i
  rw [← e2] at e3
  have o0 : (2 * q + 1).testBit 0 = true := by rw [Nat.testBit_zero]; simp
  have os : ∀ j, (2 * q + 1).testBit (j + 1) = q.testBit j := fun j => by rw [Nat.testBit_succ]; congr 1; omega
  have es : ∀ j, (2 * q).testBit (j + 1) = q.testBit j := fun j => by rw [Nat.testBit_succ]; congr 1; omega
  refine ⟨ht, ?_, fun i hi => ?_, fun i => ?_⟩
  · rw [e1, Nat.sub_self, o0]; simp
  · rw [e1]; simp; omega
  · rw [Nat.testBit_and, e1 i, e3 i]
    by_cases hlt : i < t
    · simp [hlt]; omega
    · by_cases heq : i = t
      · subst heq
        simp
      · obtain ⟨j, hj⟩ : ∃ j, i - t = j + 1 := ⟨i - t - 1, by omega⟩
        rw [hj, os, if_neg hlt, es]
        have : i ≥ t := by omega
        simp [this, heq]
theorem uG (n m m' t : Nat) (ht : t < n) (hx : m.testBit t = true) (hlow : ∀ i, i < t → m.testBit i = false) (hm' : ∀ i, m'.testBit i = (m.testBit i && decide (i ≠ t))) : ev n m = t :: ev n m' := by
  obtain ⟨r, rfl⟩ : ∃ r, n = t + (1 + r) := ⟨n - t - 1, by omega⟩
  unfold ev
  rw [List.range_add, List.range_add, List.map_append, List.filter_append, List.filter_append, List.filter_append, List.filter_append]
  have h1 : (List.range t).filter (fun i => m.testBit i) = [] := List.filter_eq_nil_iff.2 (fun i hi => by rw [hlow i (List.mem_range.1 hi)]; simp)
  have h2 : (List.range t).filter (fun i => m'.testBit i) = [] := List.filter_eq_nil_iff.2 (fun i hi => by rw [hm', hlow i (List.mem_range.1 hi)]; simp)
  have h3 : ((List.range 1).map (t + ·)).filter (fun i => m.testBit i) = [t] := by simp [List.range_succ, hx]
  have h4 : ((List.range 1).map (t + ·)).filter (fun i => m'.testBit i) = [] := by simp [List.range_succ, hm']
  have h5 : (((List.range r).map (1 + ·)).map (t + ·)).filter (fun i => m.testBit i) = (((List.range r).map (1 + ·)).map (t + ·)).filter (fun i => m'.testBit i) := by
    apply List.filter_congr
    intro i hi
    obtain ⟨j, hj, rfl⟩ := List.mem_map.1 hi
    obtain ⟨j', _, rfl⟩ := List.mem_map.1 hj
    rw [hm']
    have : t + (1 + j') ≠ t := by omega
    simp
  rw [h1, h2, h3, h4, h5]
  rfl
theorem qO (n : Nat) : ev n 0 = [] := by
  unfold ev
  exact List.filter_eq_nil_iff.2 (fun i _ => by simp)
theorem gn {n m i : Nat} : i ∈ ev n m ↔ i < n ∧ m.testBit i = true := by
  unfold ev
  rw [List.mem_filter, List.mem_range]
theorem fI (n m : Nat) : (ev n m).length ≤ n := by
  have := List.length_filter_le (fun i => m.testBit i) (List.range n)
  rwa [List.length_range] at this
theorem lV (n d m : Nat) (h : m < 2 ^ n) : ev (n + d) m = ev n m := by
  unfold ev
  rw [List.range_add, List.filter_append]
  have : ((List.range d).map (n + ·)).filter (fun i => m.testBit i) = [] := List.filter_eq_nil_iff.2 (fun i hi => by
    obtain ⟨j, _, rfl⟩ := List.mem_map.1 hi
    rw [Nat.testBit_lt_two_pow (Nat.lt_of_lt_of_le h (Nat.pow_le_pow_right (by decide) (by omega)))]
    simp)
  rw [this, List.append_nil]
theorem zw (m : Nat) (h0 : 0 < m) : m &&& (m - 1) < m := Nat.lt_of_le_of_lt Nat.and_le_right (by omega)
def fo (m : Nat) (l : List Nat) : Nat := l.foldl (fun m x => m ||| 2 ^ x) m
theorem hX (m x : Nat) (l : List Nat) : fo m (x :: l) = fo (m ||| 2 ^ x) l := rfl
theorem iq : ∀ (l : List Nat) (m i : Nat), (fo m l).testBit i = (m.testBit i || decide (i ∈ l))
  | [], m, i => by simp [fo]
  | x :: l, m, i => by
    rw [hX, iq l, Nat.testBit_or, Nat.testBit_two_pow]
    simp only [List.mem_cons]
    by_cases h1 : i = x
    · subst h1; simp
    · have h2 : ¬ x = i := fun e => h1 e.symm
      simp [h1, h2]
theorem q8 {n : Nat} : ∀ (l : List Nat) (m : Nat), m < 2 ^ n → (∀ x ∈ l, x < n) → fo m l < 2 ^ n
  | [], m, hm, _ => hm
  | x :: l, m, hm, h => by
    rw [hX]
    exact q8 l _ (Nat.or_lt_two_pow hm (Nat.pow_lt_pow_right (by decide) (h x List.mem_cons_self))) (fun y hy => h y (List.mem_cons_of_mem _ hy))
theorem od (n m : Nat) : (ev n m).Pairwise (· < ·) := List.Pairwise.filter _ List.pairwise_lt_range
theorem oe (n : Nat) (l : List Nat) (hs : l.Pairwise (· < ·)) (h : ∀ x ∈ l, x < n) : ev n (fo 0 l) = l := by
  have hp : (ev n (fo 0 l)).Perm l := by
    rw [List.perm_ext_iff_of_nodup]
    · intro i
      rw [gn, iq, Nat.zero_testBit, Bool.false_or, decide_eq_true_iff]
      exact ⟨fun hi => hi.2, fun hi => ⟨h i hi, hi⟩⟩
    · exact (od n _).imp (fun hlt => by omega)
    · exact hs.imp (fun hlt => by omega)
  exact hp.eq_of_pairwise (le := (· < ·)) (fun a b _ _ h1 h2 => by omega) (od n _) hs
theorem qD (m : Nat) (a b : List Nat) : fo m (a ++ b) = fo (fo m a) b := by unfold fo; rw [List.foldl_append]
end Go.Proofs.YtmjlmloomkodpaaGreatDoor.Bt
namespace Go.Proofs.YtmjlmloomkodpaaGreatDoor.Bt
open Go
def eL : List Nat → Nat → Nat → List Nat
  | [], 0, c => [c]
  | [], _ + 1, _ => []
  | _ :: _, 0, c => [c]
  | b :: t, n + 1, c => eL t n (c ||| 2 ^ b) ++ eL t (n + 1) c
theorem ki {N : Nat} : ∀ (l : List Nat) (n c : Nat), c < 2 ^ N → (∀ x ∈ l, x < N) → ∀ y ∈ eL l n c, y < 2 ^ N := by
  intro l
  induction l with
  | nil =>
    intro n c hc _ y hy
    cases n with
    | zero => simp only [eL, List.mem_singleton] at hy; rw [hy]; exact hc
    | succ n => simp only [eL, List.not_mem_nil] at hy
  | cons b t ih =>
    intro n c hc h y hy
    cases n with
    | zero => simp only [eL, List.mem_singleton] at hy; rw [hy]; exact hc
    | succ n =>
      simp only [eL, List.mem_append] at hy
      have ht : ∀ x ∈ t, x < N := fun x hx => h x (List.mem_cons_of_mem _ hx)
      rcases hy with hy | hy
      · exact ih n _ (Nat.or_lt_two_pow hc (Nat.pow_lt_pow_right (by decide) (h b List.mem_cons_self))) ht y hy
      · exact ih (n + 1) c hc ht y hy
theorem ni : ∀ (l : List Nat) (n c : Nat), (eL l n c).length ≤ (l.length + 1) ^ n := by
  intro l
  induction l with
  | nil =>
    intro n c
    cases n with
    | zero => simp [eL]
    | succ n => simp [eL]
  | cons b t ih =>
    intro n c
    cases n with
    | zero => simp [eL]
    | succ n =>
      simp only [eL, List.length_append, List.length_cons]
      have h1 := ih n (c ||| 2 ^ b)
      have h2 := ih (n + 1) c
      have h3 : (t.length + 1) ^ n ≤ (t.length + 2) ^ n := Nat.pow_le_pow_left (by omega) n
      have h4 : (t.length + 1) ^ (n + 1) = (t.length + 1) ^ n * (t.length + 1) := Nat.pow_succ _ _
      have h5 : (t.length + 1 + 1) ^ (n + 1) = (t.length + 2) ^ n * (t.length + 2) := Nat.pow_succ _ _
      have h6 : (t.length + 1) ^ n * (t.length + 1) ≤ (t.length + 2) ^ n * (t.length + 1) := Nat.mul_le_mul_right _ h3
      rw [h5]
      rw [h4] at h2
      rw [show t.length + 2 = (t.length + 1) + 1 by omega, Nat.mul_add, Nat.mul_one]
      rw [show t.length + 2 = (t.length + 1) + 1 by omega] at h3 h6
      omega
def orL (l : List Nat) : Nat := l.foldl (fun a e => a ||| e) 0
theorem vx : ∀ (l : List Nat) (a i : Nat), (l.foldl (fun a e => a ||| e) a).testBit i = (a.testBit i || l.any (fun e => e.testBit i))
  | [], a, i => by simp
  | e :: l, a, i => by
    rw [List.foldl_cons, vx l, Nat.testBit_or, List.any_cons, Bool.or_assoc]
theorem kZ (l : List Nat) (i : Nat) : (orL l).testBit i = l.any (fun e => e.testBit i) := by
  unfold orL
  rw [vx, Nat.zero_testBit, Bool.false_or]
theorem pC {N : Nat} : ∀ (l : List Nat) (a : Nat), a < 2 ^ N → (∀ e ∈ l, e < 2 ^ N) → l.foldl (fun a e => a ||| e) a < 2 ^ N
  | [], a, ha, _ => ha
  | e :: l, a, ha, h => by
    rw [List.foldl_cons]
    exact pC l _ (Nat.or_lt_two_pow ha (h e List.mem_cons_self)) (fun x hx => h x (List.mem_cons_of_mem _ hx))
theorem vz : ∀ (l : List Nat) (a i : Nat), (l.foldl nd a).testBit i = (a.testBit i && !l.any (fun e => e.testBit i))
  | [], a, i => by simp
  | e :: l, a, i => by
    rw [List.foldl_cons, vz l, eP, List.any_cons, Bool.not_or, Bool.and_assoc]
theorem pD (l : List Nat) (a : Nat) : l.foldl nd a = nd a (orL l) := by
  apply Nat.eq_of_testBit_eq
  intro i
  rw [vz, eP, kZ]
theorem ry (a b : Nat) : nd a b = 0 ↔ ∀ i, a.testBit i = true → b.testBit i = true := by
  constructor
  · intro h i hi
    have h2 : (nd a b).testBit i = false := by rw [h, Nat.zero_testBit]
    rw [eP, hi] at h2
    simpa using h2
  · intro h
    apply Nat.eq_of_testBit_eq
    intro i
    rw [eP, Nat.zero_testBit]
    cases hi : a.testBit i
    · rfl
    · rw [h i hi]; rfl
theorem and_self_iff (m e : Nat) : m &&& e = e ↔ nd e m = 0 := by
  rw [ry]
  constructor
  · intro h i hi
    rw [← h, Nat.testBit_and] at hi
    simp only [Bool.and_eq_true] at hi
    exact hi.1
  · intro h
    apply Nat.eq_of_testBit_eq
    intro i
    rw [Nat.testBit_and]
    cases hi : e.testBit i
    · simp
    · rw [h i hi]; rfl
def lI (es : List Nat) (m : Nat) : List Nat := es.filter (fun e => nd e m == 0)
theorem yB (es : List Nat) (m : Nat) : (lI es m).foldl nd m = 0 ↔ orL (lI es m) = m := by
  rw [pD, ry]
  constructor
  · intro h
    apply Nat.eq_of_testBit_eq
    intro i
    rw [kZ]
    cases hi : m.testBit i
    · rw [List.any_eq_false]
      intro e he
      obtain ⟨_, h2⟩ := List.mem_filter.1 he
      have h2 := (ry e m).1 (by simpa using h2)
      intro h3
      rw [h2 i h3] at hi
      cases hi
    · have := h i hi
      rwa [kZ] at this
  · intro h i hi
    rw [h]
    exact hi
def tI (es : List Nat) (s : Int) (tidy : Bool) (m : Nat) : Bool := decide (((lI es m).length : Int) = s) && (!tidy || decide (orL (lI es m) = m))
def jN (haves frees : List Nat) (n : Nat) (mv : Bool) (m : Nat) : List Nat :=
  (eL haves n 0).flatMap fun g => if mv then (eL frees n 0).map (fun p => nd m g ||| p) else [nd m g]
theorem pG {N : Nat} {haves frees : List Nat} {n : Nat} {mv : Bool} {m : Nat} (hm : m < 2 ^ N) (_hh : ∀ x ∈ haves, x < N) (hf : ∀ x ∈ frees, x < N) : ∀ y ∈ jN haves frees n mv m, y < 2 ^ N := by
  intro y hy
  obtain ⟨g, _, hy⟩ := List.mem_flatMap.1 hy
  cases mv with
  | false =>
    rw [if_neg (by decide), List.mem_singleton] at hy
    rw [hy]
    exact k6 hm
  | true =>
    rw [if_pos rfl] at hy
    obtain ⟨p, hp, rfl⟩ := List.mem_map.1 hy
    exact Nat.or_lt_two_pow (k6 hm) (ki frees n 0 (Nat.two_pow_pos _) hf p hp)
theorem jX {α β : Type} (f : α → List β) (b : Nat) : ∀ (l : List α), (∀ x ∈ l, (f x).length ≤ b) → (l.flatMap f).length ≤ l.length * b
  | [], _ => by simp
  | x :: l, h => by
    rw [List.flatMap_cons, List.length_append, List.length_cons, Nat.add_mul, Nat.one_mul]
    have h1 := h x List.mem_cons_self
    have h2 := jX f b l (fun y hy => h y (List.mem_cons_of_mem _ hy))
    omega
theorem mS (haves frees : List Nat) (n : Nat) (mv : Bool) (m : Nat) : (jN haves frees n mv m).length ≤ (eL haves n 0).length * (if mv then (eL frees n 0).length else 1) := by
  apply jX
  intro g _
  cases mv with
  | false => simp
  | true => simp
end Go.Proofs.YtmjlmloomkodpaaGreatDoor.Bt
namespace Go.Proofs.YtmjlmloomkodpaaGreatDoor.PA
open Go.RowKit Go.Proofs.ae.aw Go.Proofs.ae.aJ Go.Proofs.ae.aN Go.Proofs.YtmjlmloomkodpaaGreatDoor.Bt
set_option linter.unusedVariables false
set_option linter.unusedSimpArgs false
def toN (l : List Int) : List Nat := l.map Int.toNat
def ofN (l : List Nat) : List Int := l.map (fun n : Nat => (n : Int))
theorem xI {k : IntKind} (h : K6 k) (x : Nat) (hx : x < 62) : shl k 1 (x : Int) = ((2 ^ x : Nat) : Int) := by
  unfold shl
  rw [h.bits, Int.toNat_natCast, Nat.min_eq_left (by omega), Int.one_mul]
  have e : ((2 : Int) ^ x) = ((2 ^ x : Nat) : Int) := by simp
  rw [e]
  exact h.wrap _ (Nat.pow_lt_pow_right (by decide) hx)
theorem Aq {k : IntKind} (h : K6 k) (m x : Nat) (hx : x < 64) : shr k (m : Int) (x : Int) = ((m / 2 ^ x : Nat) : Int) := by
  unfold shr
  rw [h.bits, Int.toNat_natCast, Nat.min_eq_left (by omega)]
  have e : ((2 : Int) ^ x) = ((2 ^ x : Nat) : Int) := by simp
  rw [e]
  rfl
theorem uE (l : List Int) (i : Nat) : rd l (i : Int) = l.getD i 0 := by unfold rd; rw [Int.toNat_natCast]
theorem mN (l : List Int) (i : Nat) (h : i < l.length) : (toN l).drop i = (rd l i).toNat :: (toN l).drop (i + 1) := by
  unfold toN
  rw [← List.map_drop, ← List.map_drop, gq l i h]
  rfl
theorem gI {α : Type} (l : List α) (i : Nat) (h : i = l.length) : l.drop i = [] := by rw [h]; exact List.drop_length
theorem rp (l : List Int) (i : Nat) (h : i < l.length) : rd l i ∈ l := by
  rw [uE, List.getD_eq_getElem?_getD, List.getElem?_eq_getElem h]
  exact List.getElem_mem h
theorem oU (w h : Nat) (hw : w ≤ 4) (hh : h ≤ 4) : bu.f (w : Int) (h : Int) = some ((w * (h + 1) : Nat) : Int) := by
  have e : ∀ w : Nat, w < 5 → ∀ h : Nat, h < 5 → bu.f (w : Int) (h : Int) = some ((w * (h + 1) : Nat) : Int) := by decide +kernel
  exact e w (by omega) h (by omega)
theorem Ah (w h : Nat) (hw : w ≤ 4) (hh : h ≤ 4) : cA.f (w : Int) (h : Int) = some ((h * (w + 1) : Nat) : Int) := by
  have e : ∀ w : Nat, w < 5 → ∀ h : Nat, h < 5 → cA.f (w : Int) (h : Int) = some ((h * (w + 1) : Nat) : Int) := by decide +kernel
  exact e w (by omega) h (by omega)
theorem jf (w h : Nat) (hw : w ≤ 4) (hh : h ≤ 4) : w * (h + 1) ≤ 20 ∧ h * (w + 1) ≤ 20 := by
  have e : ∀ w : Nat, w < 5 → ∀ h : Nat, h < 5 → w * (h + 1) ≤ 20 ∧ h * (w + 1) ≤ 20 := by decide +kernel
  exact e w (by omega) h (by omega)
def mkM (w h : Nat) (A U : List Int) : Nat := fo (fo 0 (toN A)) ((toN U).map (w * (h + 1) + ·))
theorem Aj {α : Type} (w h : Nat) (hw : w ≤ 4) (hh : h ≤ 4) (A U : List Int) (x : Nat) (hx : x < 40) (F : Int → Option α) :
    ((bN.f (w : Int) (h : Int) A U).bind fun bt118 => ((bu.f bt118.1 bt118.2).bind fun t120 => (if 0 ≤ (wrap64 (t120 + (x : Int))) then F (shl .u64 1 (wrap64 (t120 + (x : Int)))) else none))) = F ((2 ^ (w * (h + 1) + x) : Nat) : Int) := by
  have hl2 := jf w h hw hh
  have e := oU w h hw hh
  unfold bN.f
  rw [Option.bind_some, e, Option.bind_some]
  have e2 : wrap64 (((w * (h + 1) : Nat) : Int) + (x : Int)) = ((w * (h + 1) + x : Nat) : Int) := by rw [iV (by omega) (by omega)]; omega
  rw [e2, if_pos (by omega), xI K6.u _ (by omega)]
theorem Dm (w h : Nat) (hw : w ≤ 4) (hh : h ≤ 4) (A U : List Int) (hU : ∀ x ∈ U, 0 ≤ x ∧ x < 40) (hl : U.length ≤ 1000000) : ∀ (d k i m : Nat), i + d = U.length → d < k → m < 2 ^ 62 →
    aI.l1 k (m : Int) U (U.length : Int) (i : Int) (w : Int) (h : Int) A U = some ((fo m (((toN U).drop i).map (w * (h + 1) + ·)) : Nat) : Int) := by
  intro d
  induction d with
  | zero =>
    intro k i m hi hk hm
    obtain ⟨k, rfl⟩ : ∃ j, k = j + 1 := ⟨k - 1, by omega⟩
    simp only [aI.l1]
    rw [if_neg (by omega), gI _ _ (by simp [toN]; omega)]
    rfl
  | succ d ih =>
    intro k i m hi hk hm
    obtain ⟨k, rfl⟩ : ∃ j, k = j + 1 := ⟨k - 1, by omega⟩
    have hlt : i < U.length := by omega
    have hv := hU _ (rp U i hlt)
    obtain ⟨x, hx⟩ := Int.eq_ofNat_of_zero_le hv.1
    have hl2 := jf w h hw hh
    simp only [aI.l1]
    rw [if_pos (by omega), if_pos (by omega), if_pos (by omega), hx]
    have hst := Aj w h hw hh A U x (by omega) (fun t => aI.l1 k (Go.bits .or .u64 (m : Int) t) U (U.length : Int) (wrap64 ((i : Int) + 1)) (w : Int) (h : Int) A U)
    refine hst.trans ?_
    rw [qE K6.u _ _ hm (Nat.pow_lt_pow_right (by decide) (by omega)), show wrap64 ((i : Int) + 1) = ((i + 1 : Nat) : Int) by rw [iV (by omega) (by omega)]; omega,
      ih k (i + 1) _ (by omega) (by omega) (Nat.or_lt_two_pow hm (Nat.pow_lt_pow_right (by decide) (by omega))), mN U i hlt, hx, Int.toNat_natCast, List.map_cons, hX]
theorem Dn (w h : Nat) (hw : w ≤ 4) (hh : h ≤ 4) (A U : List Int) (hA : ∀ x ∈ A, 0 ≤ x ∧ x < 40) (hU : ∀ x ∈ U, 0 ≤ x ∧ x < 40) (hla : A.length ≤ 1000000) (hl : U.length ≤ 1000000) : ∀ (d k i m : Nat), i + d = A.length → d + U.length + 1 < k → m < 2 ^ 62 →
    aI.l0 k (m : Int) A (A.length : Int) (i : Int) (w : Int) (h : Int) A U = some ((fo (fo m ((toN A).drop i)) ((toN U).map (w * (h + 1) + ·)) : Nat) : Int) := by
  intro d
  induction d with
  | zero =>
    intro k i m hi hk hm
    obtain ⟨k, rfl⟩ : ∃ j, k = j + 1 := ⟨k - 1, by omega⟩
    simp only [aI.l0]
    rw [if_neg (by omega), gI _ _ (by simp [toN]; omega)]
    have := Dm w h hw hh A U hU hl U.length k 0 m (by omega) (by omega) hm
    rw [Int.natCast_zero] at this
    rw [this]
    rfl
  | succ d ih =>
    intro k i m hi hk hm
    obtain ⟨k, rfl⟩ : ∃ j, k = j + 1 := ⟨k - 1, by omega⟩
    have hlt : i < A.length := by omega
    have hv := hA _ (rp A i hlt)
    obtain ⟨x, hx⟩ := Int.eq_ofNat_of_zero_le hv.1
    simp only [aI.l0]
    rw [if_pos (by omega), if_pos (by omega), if_pos (by omega), hx, if_pos (by omega), xI K6.u _ (by omega),
      qE K6.u _ _ hm (Nat.pow_lt_pow_right (by decide) (by omega)), show wrap64 ((i : Int) + 1) = ((i + 1 : Nat) : Int) by rw [iV (by omega) (by omega)]; omega,
      ih k (i + 1) _ (by omega) (by omega) (Nat.or_lt_two_pow hm (Nat.pow_lt_pow_right (by decide) (by omega))), mN A i hlt, hx, Int.toNat_natCast, hX]
theorem yK (w h : Nat) (hw : w ≤ 4) (hh : h ≤ 4) (A U : List Int) (hA : ∀ x ∈ A, 0 ≤ x ∧ x < 40) (hU : ∀ x ∈ U, 0 ≤ x ∧ x < 40) (hla : A.length ≤ 1000000) (hl : U.length ≤ 1000000) (k : Nat) (hk : A.length + U.length + 1 < k) :
    aI.f k (w : Int) (h : Int) A U = some ((mkM w h A U : Nat) : Int) := by
  have := Dn w h hw hh A U hA hU hla hl A.length k 0 0 (by omega) hk (by decide)
  rw [Int.natCast_zero] at this
  unfold aI.f
  rw [this]
  rfl
theorem tk (w h : Nat) (hw : w ≤ 4) (hh : h ≤ 4) (x : Nat) (hx : x < 40) : cE.f (w : Int) (h : Int) true (x : Int) = some ((2 ^ (w * (h + 1) + x) : Nat) : Int) := by
  have hl2 := jf w h hw hh
  have e := oU w h hw hh
  unfold bu.f at e
  have e := Option.some.inj e
  unfold cE.f
  rw [if_pos rfl, e, show wrap64 (((w * (h + 1) : Nat) : Int) + (x : Int)) = ((w * (h + 1) + x : Nat) : Int) by rw [iV (by omega) (by omega)]; omega, if_pos (by omega), xI K6.i _ (by omega)]
theorem tl (w h : Int) (x : Nat) (hx : x < 62) : cE.f w h false (x : Int) = some ((2 ^ x : Nat) : Int) := by
  unfold cE.f
  rw [if_neg (by decide), if_pos (by omega), xI K6.i _ hx]
theorem AH (w h : Nat) (hw : w ≤ 4) (hh : h ≤ 4) (A U : List Int) (hU : ∀ x ∈ U, 0 ≤ x ∧ x < 40) (hl : U.length ≤ 1000000) : ∀ (d k i m : Nat), i + d = U.length → d < k → m < 2 ^ 62 →
    bQ.l1 k (m : Int) U (U.length : Int) (i : Int) (w : Int) (h : Int) A U = some ((fo m (((toN U).drop i).map (w * (h + 1) + ·)) : Nat) : Int) := by
  intro d
  induction d with
  | zero =>
    intro k i m hi hk hm
    obtain ⟨k, rfl⟩ : ∃ j, k = j + 1 := ⟨k - 1, by omega⟩
    simp only [bQ.l1]
    rw [if_neg (by omega), gI _ _ (by simp [toN]; omega)]
    rfl
  | succ d ih =>
    intro k i m hi hk hm
    obtain ⟨k, rfl⟩ : ∃ j, k = j + 1 := ⟨k - 1, by omega⟩
    have hlt : i < U.length := by omega
    have hv := hU _ (rp U i hlt)
    obtain ⟨x, hx⟩ := Int.eq_ofNat_of_zero_le hv.1
    have hl2 := jf w h hw hh
    simp only [bQ.l1]
    rw [if_pos (by omega), if_pos (by omega), if_pos (by omega), hx, tk w h hw hh x (by omega)]
    simp only [Option.bind_some]
    rw [qE K6.i _ _ hm (Nat.pow_lt_pow_right (by decide) (by omega)), show wrap64 ((i : Int) + 1) = ((i + 1 : Nat) : Int) by rw [iV (by omega) (by omega)]; omega,
      ih k (i + 1) _ (by omega) (by omega) (Nat.or_lt_two_pow hm (Nat.pow_lt_pow_right (by decide) (by omega))), mN U i hlt, hx, Int.toNat_natCast, List.map_cons, hX]
theorem AI (w h : Nat) (hw : w ≤ 4) (hh : h ≤ 4) (A U : List Int) (hA : ∀ x ∈ A, 0 ≤ x ∧ x < 40) (hU : ∀ x ∈ U, 0 ≤ x ∧ x < 40) (hla : A.length ≤ 1000000) (hl : U.length ≤ 1000000) : ∀ (d k i m : Nat), i + d = A.length → d + U.length + 1 < k → m < 2 ^ 62 →
    bQ.l0 k (m : Int) A (A.length : Int) (i : Int) (w : Int) (h : Int) A U = some ((fo (fo m ((toN A).drop i)) ((toN U).map (w * (h + 1) + ·)) : Nat) : Int) := by
  intro d
  induction d with
  | zero =>
    intro k i m hi hk hm
    obtain ⟨k, rfl⟩ : ∃ j, k = j + 1 := ⟨k - 1, by omega⟩
    simp only [bQ.l0]
    rw [if_neg (by omega), gI _ _ (by simp [toN]; omega)]
    have := AH w h hw hh A U hU hl U.length k 0 m (by omega) (by omega) hm
    rw [Int.natCast_zero] at this
    rw [this]
    rfl
  | succ d ih =>
    intro k i m hi hk hm
    obtain ⟨k, rfl⟩ : ∃ j, k = j + 1 := ⟨k - 1, by omega⟩
    have hlt : i < A.length := by omega
    have hv := hA _ (rp A i hlt)
    obtain ⟨x, hx⟩ := Int.eq_ofNat_of_zero_le hv.1
    simp only [bQ.l0]
    rw [if_pos (by omega), if_pos (by omega), if_pos (by omega), hx, tl _ _ x (by omega)]
    simp only [Option.bind_some]
    rw [qE K6.i _ _ hm (Nat.pow_lt_pow_right (by decide) (by omega)), show wrap64 ((i : Int) + 1) = ((i + 1 : Nat) : Int) by rw [iV (by omega) (by omega)]; omega,
      ih k (i + 1) _ (by omega) (by omega) (Nat.or_lt_two_pow hm (Nat.pow_lt_pow_right (by decide) (by omega))), mN A i hlt, hx, Int.toNat_natCast, hX]
theorem AJ (w h : Nat) (hw : w ≤ 4) (hh : h ≤ 4) (A U : List Int) (hA : ∀ x ∈ A, 0 ≤ x ∧ x < 40) (hU : ∀ x ∈ U, 0 ≤ x ∧ x < 40) (hla : A.length ≤ 1000000) (hl : U.length ≤ 1000000) (k : Nat) (hk : A.length + U.length + 1 < k) :
    bQ.f k (w : Int) (h : Int) A U = some ((mkM w h A U : Nat) : Int) := by
  have := AI w h hw hh A U hA hU hla hl A.length k 0 0 (by omega) hk (by decide)
  rw [Int.natCast_zero] at this
  unfold bQ.f
  rw [this]
  rfl
theorem xZ : ∀ (n m k : Nat) (acc : List Int), (ev 64 m).length = n → m < 2 ^ 62 → n < k → acc.length + n ≤ 1000000 → ba.l0 k (m : Int) acc = some (acc ++ ofN (ev 64 m)) := by
  intro n
  induction n with
  | zero =>
    intro m k acc hn hm hk ha
    obtain ⟨k, rfl⟩ : ∃ j, k = j + 1 := ⟨k - 1, by omega⟩
    have h0 : m = 0 := by
      rcases Nat.eq_zero_or_pos m with h | h
      · exact h
      · have hl := vC m h (Nat.lt_of_lt_of_le hm (by decide))
        have : Lib.ctz 64 m ∈ ev 64 m := gn.2 ⟨hl.1, hl.2.1⟩
        rw [List.length_eq_zero_iff.1 hn] at this
        cases this
    subst h0
    simp only [ba.l0]
    rw [if_neg (by decide), qO]
    simp [ofN]
  | succ n ih =>
    intro m k acc hn hm hk ha
    obtain ⟨k, rfl⟩ : ∃ j, k = j + 1 := ⟨k - 1, by omega⟩
    have hp : 0 < m := by
      rcases Nat.eq_zero_or_pos m with h | h
      · subst h; rw [qO] at hn; cases hn
      · exact h
    have EB : m < 2 ^ 64 := Nat.lt_of_lt_of_le hm (by decide)
    have hl := vC m hp EB
    have hs := uG 64 m (m &&& (m - 1)) _ hl.1 hl.2.1 hl.2.2.1 hl.2.2.2
    have hlt := zw m hp
    have hm' : (m : Int) < 18446744073709551616 := by
      have : m < 18446744073709551616 := Nat.lt_of_lt_of_le EB (by decide)
      omega
    simp only [ba.l0]
    rw [if_pos (by omega)]
    unfold dP.f
    rw [if_pos ⟨by omega, hm'⟩]
    simp only [Option.bind_some]
    rw [if_pos (by omega), show (m : Int) - 1 = ((m - 1 : Nat) : Int) by omega, K6.wrap K6.u (m - 1) (by omega), lJ K6.u _ _ hm (by omega), Int.toNat_natCast,
      ih (m &&& (m - 1)) k _ (by rw [hs, List.length_cons] at hn; omega) (by omega) (by omega) (by rw [List.length_append, List.length_singleton]; omega), hs]
    simp [ofN]
theorem lX (m k : Nat) (hm : m < 2 ^ 62) (hk : 64 < k) : ba.f k (m : Int) = some (ofN (ev 64 m)) := by
  unfold ba.f
  have := fI 64 m
  rw [xZ _ m k [] rfl hm (by omega) (by rw [List.length_nil]; omega)]
  rfl
theorem yS (n m : Nat) : ev n (m % 2 ^ n) = ev n m := by
  unfold ev
  apply List.filter_congr
  intro i hi
  have := List.mem_range.1 hi
  rw [Nat.testBit_mod_two_pow]
  simp [this]
def nJ (w h m : Nat) : List Int := ofN (ev (w * (h + 1)) m)
def nI (w h m : Nat) : List Int := ofN (ev (h * (w + 1)) (m / 2 ^ (w * (h + 1))))
theorem qX (w h : Nat) (hw : w ≤ 4) (hh : h ≤ 4) (m : Nat) (hm : m < 2 ^ (w * (h + 1) + h * (w + 1))) (k : Nat) (hk : 64 < k) :
    bM.f k (w : Int) (h : Int) (m : Int) = some ((w : Int), (h : Int), nJ w h m, nI w h m) := by
  have hl2 := jf w h hw hh
  have h62 : m < 2 ^ 62 := Nat.lt_of_lt_of_le hm (Nat.pow_le_pow_right (by decide) (by omega))
  have hp : 0 < 2 ^ (w * (h + 1)) := Nat.two_pow_pos _
  have hlt : 2 ^ (w * (h + 1)) < 2 ^ 62 := Nat.pow_lt_pow_right (by decide) (by omega)
  unfold bM.f
  rw [oU w h hw hh]
  simp only [Option.bind_some]
  rw [if_pos (by omega), xI K6.u _ (by omega), show ((2 ^ (w * (h + 1)) : Nat) : Int) - 1 = ((2 ^ (w * (h + 1)) - 1 : Nat) : Int) by omega, K6.wrap K6.u _ (by omega), lJ K6.u _ _ h62 (by omega), Nat.and_two_pow_sub_one_eq_mod,
    lX _ k (Nat.lt_of_le_of_lt (Nat.mod_le _ _) h62) hk]
  simp only [Option.bind_some]
  rw [if_pos (by omega), Aq K6.u _ _ (by omega), lX _ k (Nat.lt_of_le_of_lt (Nat.div_le_self _ _) h62) hk]
  simp only [Option.bind_some]
  have e1 : ev 64 (m % 2 ^ (w * (h + 1))) = ev (w * (h + 1)) m := by
    obtain ⟨d, hd⟩ : ∃ d, 64 = w * (h + 1) + d := ⟨64 - w * (h + 1), by omega⟩
    rw [hd, lV _ _ _ (Nat.mod_lt _ hp), yS]
  have e2 : ev 64 (m / 2 ^ (w * (h + 1))) = ev (h * (w + 1)) (m / 2 ^ (w * (h + 1))) := by
    obtain ⟨d, hd⟩ : ∃ d, 64 = h * (w + 1) + d := ⟨64 - h * (w + 1), by omega⟩
    rw [hd, lV]
    apply Nat.div_lt_of_lt_mul
    rwa [← Nat.pow_add]
  rw [e1, e2]
  rfl
theorem kz (a b : List Nat) : ofN (a ++ b) = ofN a ++ ofN b := List.map_append
theorem qQ (n m : Nat) : ev (n + 1) m = ev n m ++ (if m.testBit n then [n] else []) := by
  unfold ev
  rw [List.range_succ, List.filter_append]
  cases h : m.testBit n <;> simp [h]
theorem ff (m n : Nat) : (((m &&& 2 ^ n : Nat) : Int) = 0) ↔ m.testBit n = false := by
  rw [show ((0 : Int)) = ((0 : Nat) : Int) from rfl, Int.natCast_inj]
  constructor
  · intro h
    have h2 : (m &&& 2 ^ n).testBit n = false := by rw [h, Nat.zero_testBit]
    rw [Nat.testBit_and, Nat.testBit_two_pow_self, Bool.and_true] at h2
    exact h2
  · intro h
    apply Nat.eq_of_testBit_eq
    intro i
    rw [Nat.testBit_and, Nat.testBit_two_pow, Nat.zero_testBit]
    by_cases e : n = i
    · subst e; rw [h, Bool.false_and]
    · rw [decide_eq_false e, Bool.and_false]
theorem Cg (w h : Nat) (hw : w ≤ 4) (hh : h ≤ 4) (m : Nat) (hm : m < 2 ^ 62) (a b : Int) (A : List Int) : ∀ (d k i : Nat), i + d = h * (w + 1) → d < k →
    bA.l1 k (w : Int) (h : Int) (m : Int) (i : Int) a b A (ofN (ev i (m / 2 ^ (w * (h + 1))))) = some (a, b, A, nI w h m) := by
  have hl2 := jf w h hw hh
  have EU : aa (wrap64 ((wrap64 ((w : Int) + 1)) * (h : Int)) = ((h * (w + 1) : Nat) : Int)) := by
    have eu := Ah w h hw hh
    unfold cA.f at eu
    have eu := Option.some.inj eu
    exact ⟨by rw [Int.mul_comm]; exact eu⟩
  intro d
  induction d with
  | zero =>
    intro k i hi hk
    obtain ⟨k, rfl⟩ : ∃ j, k = j + 1 := ⟨k - 1, by omega⟩
    simp only [bA.l1]
    rw [EU.out, if_neg (by omega)]
    have : i = h * (w + 1) := by omega
    subst this
    rfl
  | succ d ih =>
    intro k i hi hk
    obtain ⟨k, rfl⟩ : ∃ j, k = j + 1 := ⟨k - 1, by omega⟩
    have EC : i < 40 := by omega
    have hpw : 2 ^ (w * (h + 1) + i) < 2 ^ 62 := Nat.pow_lt_pow_right (by decide) (by omega)
    have hi2 : (i : Int) < ((h * (w + 1) : Nat) : Int) := by omega
    have hlen := fI i (m / 2 ^ (w * (h + 1)))
    have hlen2 : (ofN (ev i (m / 2 ^ (w * (h + 1))))).length < 17592186044416 := by unfold ofN; rw [List.length_map]; omega
    have ht : (m / 2 ^ (w * (h + 1))).testBit i = m.testBit (w * (h + 1) + i) := by rw [Nat.testBit_div_two_pow, Nat.add_comm]
    have hih := ih k (i + 1) (by omega) (by omega)
    have hs : wrap64 ((i : Int) + 1) = ((i + 1 : Nat) : Int) := by rw [iV (by omega) (by omega)]; omega
    simp only [bA.l1]
    rw [EU.out, if_pos hi2, tk w h hw hh i EC]
    simp only [Option.bind_some]
    rw [lJ K6.i _ _ hm hpw, hs]
    rw [qQ, ht, kz] at hih
    cases hb : m.testBit (w * (h + 1) + i)
    · rw [if_pos ((ff _ _).2 hb)]
      rw [hb, if_neg (by decide), show ofN [] = [] from rfl, List.append_nil] at hih
      exact hih
    · rw [if_neg (fun h => by rw [ff, hb] at h; cases h), if_pos hlen2]
      rw [hb, if_pos rfl, show ofN [i] = [(i : Int)] from rfl] at hih
      exact hih
theorem Ch (w h : Nat) (hw : w ≤ 4) (hh : h ≤ 4) (m : Nat) (hm : m < 2 ^ 62) (a b : Int) : ∀ (d k i : Nat), i + d = w * (h + 1) → d + h * (w + 1) + 1 < k →
    bA.l0 k (w : Int) (h : Int) (m : Int) (i : Int) a b (ofN (ev i m)) = some (a, b, nJ w h m, nI w h m) := by
  have hl2 := jf w h hw hh
  have EU : aa (wrap64 ((w : Int) * (wrap64 ((h : Int) + 1))) = ((w * (h + 1) : Nat) : Int)) := by
    have eu := oU w h hw hh
    unfold bu.f at eu
    exact ⟨Option.some.inj eu⟩
  intro d
  induction d with
  | zero =>
    intro k i hi hk
    obtain ⟨k, rfl⟩ : ∃ j, k = j + 1 := ⟨k - 1, by omega⟩
    simp only [bA.l0]
    rw [EU.out, if_neg (by omega)]
    have : i = w * (h + 1) := by omega
    subst this
    have hz := Cg w h hw hh m hm a b (nJ w h m) (h * (w + 1)) k 0 (by omega) (by omega)
    exact hz
  | succ d ih =>
    intro k i hi hk
    obtain ⟨k, rfl⟩ : ∃ j, k = j + 1 := ⟨k - 1, by omega⟩
    have EC : i < 40 := by omega
    have hpw : 2 ^ i < 2 ^ 62 := Nat.pow_lt_pow_right (by decide) (by omega)
    have hi62 : i < 62 := by omega
    have hi2 : (i : Int) < ((w * (h + 1) : Nat) : Int) := by omega
    have hlen := fI i m
    have hlen2 : (ofN (ev i m)).length < 17592186044416 := by unfold ofN; rw [List.length_map]; omega
    have hih := ih k (i + 1) (by omega) (by omega)
    have hs : wrap64 ((i : Int) + 1) = ((i + 1 : Nat) : Int) := by rw [iV (by omega) (by omega)]; omega
    simp only [bA.l0]
    rw [EU.out, if_pos hi2, tl _ _ i hi62]
    simp only [Option.bind_some]
    rw [lJ K6.i _ _ hm hpw, hs]
    rw [qQ, kz] at hih
    cases hb : m.testBit i
    · rw [if_pos ((ff _ _).2 hb)]
      rw [hb, if_neg (by decide), show ofN [] = [] from rfl, List.append_nil] at hih
      exact hih
    · rw [if_neg (fun h => by rw [ff, hb] at h; cases h), if_pos hlen2]
      rw [hb, if_pos rfl, show ofN [i] = [(i : Int)] from rfl] at hih
      exact hih
theorem tj (w h : Nat) (hw : w ≤ 4) (hh : h ≤ 4) (m : Nat) (hm : m < 2 ^ 62) (k : Nat) (hk : 64 < k) :
    bA.f k (w : Int) (h : Int) (m : Int) = some ((w : Int), (h : Int), nJ w h m, nI w h m) := by
  have hl2 := jf w h hw hh
  have hz := Ch w h hw hh m hm (w : Int) (h : Int) (w * (h + 1)) k 0 (by omega) (by omega)
  exact hz
theorem vr (l : List Nat) : toN (ofN l) = l := by
  unfold toN ofN
  rw [List.map_map]
  exact (List.map_congr_left (fun x _ => Int.toNat_natCast x)).trans (List.map_id l)
theorem rz (w h m : Nat) (hm : m < 2 ^ (w * (h + 1) + h * (w + 1))) : mkM w h (nJ w h m) (nI w h m) = m := by
  unfold mkM nJ nI
  rw [vr, vr]
  apply Nat.eq_of_testBit_eq
  intro i
  rw [iq, iq, Nat.zero_testBit, Bool.false_or]
  by_cases h1 : i < w * (h + 1)
  · have h2 : ¬ i ∈ (ev (h * (w + 1)) (m / 2 ^ (w * (h + 1)))).map (w * (h + 1) + ·) := by
      intro hi
      obtain ⟨j, _, hj⟩ := List.mem_map.1 hi
      omega
    rw [decide_eq_false h2, Bool.or_false]
    cases hb : m.testBit i
    · rw [decide_eq_false_iff_not, gn, hb]; simp
    · rw [decide_eq_true_iff, gn]; exact ⟨h1, hb⟩
  · have h2 : ¬ i ∈ ev (w * (h + 1)) m := by rw [gn]; omega
    rw [decide_eq_false h2, Bool.false_or]
    obtain ⟨j, rfl⟩ : ∃ j, i = w * (h + 1) + j := ⟨i - w * (h + 1), by omega⟩
    have hj : (m / 2 ^ (w * (h + 1))).testBit j = m.testBit (w * (h + 1) + j) := by rw [Nat.testBit_div_two_pow, Nat.add_comm]
    cases hb : m.testBit (w * (h + 1) + j)
    · rw [decide_eq_false_iff_not, List.mem_map]
      rintro ⟨x, hx, he⟩
      have : x = j := by omega
      subst this
      rw [gn, hj, hb] at hx
      cases hx.2
    · rw [decide_eq_true_iff, List.mem_map]
      refine ⟨j, gn.2 ⟨?_, by rw [hj, hb]⟩, rfl⟩
      rcases Nat.lt_or_ge j (h * (w + 1)) with h3 | h3
      · exact h3
      · rw [Nat.testBit_lt_two_pow (Nat.lt_of_lt_of_le hm (Nat.pow_le_pow_right (by decide) (by omega)))] at hb
        cases hb
theorem xa (w h m : Nat) (hw : w ≤ 4) (hh : h ≤ 4) : (∀ x ∈ nJ w h m, 0 ≤ x ∧ x < 40) ∧ (∀ x ∈ nI w h m, 0 ≤ x ∧ x < 40) ∧ (nJ w h m).length ≤ 20 ∧ (nI w h m).length ≤ 20 := by
  have hl2 := jf w h hw hh
  have h1 := fI (w * (h + 1)) m
  have h2 := fI (h * (w + 1)) (m / 2 ^ (w * (h + 1)))
  refine ⟨fun x hx => ?_, fun x hx => ?_, by unfold nJ ofN; rw [List.length_map]; omega, by unfold nI ofN; rw [List.length_map]; omega⟩
  · obtain ⟨y, hy, rfl⟩ := List.mem_map.1 hx
    have := (gn.1 hy).1
    omega
  · obtain ⟨y, hy, rfl⟩ := List.mem_map.1 hx
    have := (gn.1 hy).1
    omega
end Go.Proofs.YtmjlmloomkodpaaGreatDoor.PA
namespace Go.Proofs.YtmjlmloomkodpaaGreatDoor.PA
open Go.RowKit Go.Proofs.ae.aw Go.Proofs.ae.aJ Go.Proofs.ae.aN Go.Proofs.YtmjlmloomkodpaaGreatDoor.Bt
set_option linter.unusedVariables false
set_option linter.unusedSimpArgs false
theorem uJ : ∀ w : Nat, w < 5 → ∀ h : Nat, h < 5 → bT.f 100 (w : Int) (h : Int) = some (ofN ((List.range (w * (h + 1) + h * (w + 1))).map (2 ^ ·))) := by decide +kernel
theorem xh : ∀ w : Nat, w < 5 → ∀ h : Nat, h < 5 → cj.f (w : Int) (h : Int) = some ((2 ^ (w * (h + 1) + h * (w + 1)) - 1 : Nat) : Int) := by decide +kernel
def sqI (w h : Nat) : List (dm) := (aE.f 300 (w : Int) (h : Int)).getD []
def sqS (w h : Nat) : List (fz) := (bd.f 300 (w : Int) (h : Int)).getD []
def sqM (w h : Nat) : List Nat := (sqI w h).map fun q => q.f3.toNat
theorem oQ : ∀ w : Nat, w < 5 → ∀ h : Nat, h < 5 → (aE.f 300 (w : Int) (h : Int)).isSome = true ∧ (bd.f 300 (w : Int) (h : Int)).isSome = true ∧ (sqI w h).map (·.f3) = ofN (sqM w h) ∧ (sqS w h).map (·.f3) = ofN (sqM w h) ∧ (sqI w h).length ≤ 30 ∧ (sqS w h).length ≤ 30 ∧ (∀ e ∈ sqM w h, e < 2 ^ 40) := by decide +kernel
theorem Dl (w h k : Nat) (hw : w ≤ 4) (hh : h ≤ 4) (hk : 300 ≤ k) : aE.f k (w : Int) (h : Int) = some (sqI w h) := by
  obtain ⟨r, hr⟩ := Option.isSome_iff_exists.1 (oQ w (by omega) h (by omega)).1
  have : sqI w h = r := by unfold sqI; rw [hr]; rfl
  rw [this]
  exact nL (g := fun k => aE.f k (w : Int) (h : Int)) (aE.mono _ _) hk hr
theorem Dk (w h k : Nat) (hw : w ≤ 4) (hh : h ≤ 4) (hk : 300 ≤ k) : bd.f k (w : Int) (h : Int) = some (sqS w h) := by
  obtain ⟨r, hr⟩ := Option.isSome_iff_exists.1 (oQ w (by omega) h (by omega)).2.1
  have : sqS w h = r := by unfold sqS; rw [hr]; rfl
  rw [this]
  exact nL (g := fun k => bd.f k (w : Int) (h : Int)) (bd.mono _ _) hk hr
theorem xX (w h k : Nat) (hw : w ≤ 4) (hh : h ≤ 4) (hk : 100 ≤ k) : bT.f k (w : Int) (h : Int) = some (ofN ((List.range (w * (h + 1) + h * (w + 1))).map (2 ^ ·))) :=
  nL (g := fun k => bT.f k (w : Int) (h : Int)) (bT.mono _ _) hk (uJ w (by omega) h (by omega))
theorem ti : ∀ (l : List Nat) (n c : Nat), c < 2 ^ 60 → (∀ x ∈ l, x < 60) → fF (ofN l) n (c : Int) = ofN (eL l n c) := by
  intro l
  induction l with
  | nil =>
    intro n c hc _
    cases n <;> rfl
  | cons b t ih =>
    intro n c hc h
    cases n with
    | zero => rfl
    | succ n =>
      have hb := h b List.mem_cons_self
      have ht : ∀ x ∈ t, x < 60 := fun x hx => h x (List.mem_cons_of_mem _ hx)
      have hp : 2 ^ b < 2 ^ 60 := Nat.pow_lt_pow_right (by decide) hb
      have h62 : (2 : Nat) ^ 60 < 2 ^ 62 := by decide
      have e : ofN (b :: t) = (b : Int) :: ofN t := rfl
      rw [e]
      simp only [fF, eL]
      rw [xI K6.u b (by omega), qE K6.u _ _ (by omega) (by omega), ih n _ (Nat.or_lt_two_pow hc hp) ht, ih (n + 1) c hc ht, kz]
theorem vA : ∀ (l : List Nat) (n c : Nat), c < 2 ^ 60 → (∀ x ∈ l, x < 60) → ic (ofN (l.map (2 ^ ·))) n (c : Int) = ofN (eL l n c) := by
  intro l
  induction l with
  | nil =>
    intro n c hc _
    cases n <;> rfl
  | cons b t ih =>
    intro n c hc h
    cases n with
    | zero => rfl
    | succ n =>
      have hb := h b List.mem_cons_self
      have ht : ∀ x ∈ t, x < 60 := fun x hx => h x (List.mem_cons_of_mem _ hx)
      have hp : 2 ^ b < 2 ^ 60 := Nat.pow_lt_pow_right (by decide) hb
      have h62 : (2 : Nat) ^ 60 < 2 ^ 62 := by decide
      have e : ofN ((b :: t).map (2 ^ ·)) = ((2 ^ b : Nat) : Int) :: ofN (t.map (2 ^ ·)) := rfl
      rw [e]
      simp only [ic, eL]
      rw [qE K6.i _ _ (by omega) (by omega), ih n _ (Nat.or_lt_two_pow hc hp) ht, ih (n + 1) c hc ht, kz]
theorem k5 {α : Type} (l : List α) (f : α → List Nat) : ofN (l.flatMap f) = l.flatMap (fun x => ofN (f x)) := by
  unfold ofN
  rw [List.map_flatMap]
theorem ou {β : Type} (l : List Nat) (f : Int → List β) : (ofN l).flatMap f = l.flatMap (fun x : Nat => f (x : Int)) := by
  unfold ofN
  rw [List.flatMap_map]
theorem mo {α β : Type} {l : List α} {f g : α → List β} (h : ∀ x ∈ l, f x = g x) : l.flatMap f = l.flatMap g := by
  induction l with
  | nil => rfl
  | cons a t ih =>
    rw [List.flatMap_cons, List.flatMap_cons, h a List.mem_cons_self, ih (fun x hx => h x (List.mem_cons_of_mem _ hx))]
theorem yk (haves frees : List Nat) (n : Nat) (mv : Bool) (m : Nat) (hm : m < 2 ^ 60) (hh : ∀ x ∈ haves, x < 60) (hf : ∀ x ∈ frees, x < 60) :
    lH (ofN haves) (ofN frees) n mv (m : Int) = ofN (jN haves frees n mv m) := by
  have h62 : (2 : Nat) ^ 60 < 2 ^ 62 := by decide
  unfold lH jN
  have s1 := ti haves n 0 (by decide) hh
  have s2 := ti frees n 0 (by decide) hf
  rw [Int.natCast_zero] at s1 s2
  rw [s1, ou, k5]
  apply mo
  intro g hg
  have hg60 := ki haves n 0 (Nat.two_pow_pos 60) hh g hg
  unfold ly
  cases mv with
  | false =>
    rw [if_neg (by decide), if_neg (by decide), sT K6.u _ _ (by omega) (by omega)]
    rfl
  | true =>
    rw [if_pos rfl, if_pos rfl, s2, sT K6.u _ _ (by omega) (by omega)]
    unfold ofN
    rw [List.map_map, List.map_map]
    apply List.map_congr_left
    intro p hp
    have hp60 := ki frees n 0 (Nat.two_pow_pos 60) hf p hp
    have hnd : nd m g < 2 ^ 60 := k6 hm
    exact qE K6.u _ _ (by omega) (by omega)
theorem Az (haves frees : List Nat) (n : Nat) (m : Nat) (hm : m < 2 ^ 60) (hh : ∀ x ∈ haves, x < 60) (hf : ∀ x ∈ frees, x < 60) :
    mR (m : Int) (ofN (eL haves n 0)) (ofN (eL frees n 0)) = ofN (jN haves frees n true m) := by
  have h62 : (2 : Nat) ^ 60 < 2 ^ 62 := by decide
  unfold mR jN
  rw [ou, k5]
  apply mo
  intro g hg
  have hg60 := ki haves n 0 (Nat.two_pow_pos 60) hh g hg
  rw [if_pos rfl]
  unfold ofN
  rw [List.map_map, List.map_map]
  apply List.map_congr_left
  intro p hp
  have hp60 := ki frees n 0 (Nat.two_pow_pos 60) hf p hp
  have hnd : nd m g < 2 ^ 60 := k6 hm
  show Go.bits .or .i64 (Go.bits .andNot .i64 (m : Int) (g : Int)) (p : Int) = _
  rw [sT K6.i _ _ (by omega) (by omega)]
  exact qE K6.i _ _ (by omega) (by omega)
theorem xD (haves frees : List Nat) (n : Nat) (m : Nat) (hm : m < 2 ^ 60) (hh : ∀ x ∈ haves, x < 60) :
    j5 (m : Int) (ofN (eL haves n 0)) = ofN (jN haves frees n false m) := by
  have h62 : (2 : Nat) ^ 60 < 2 ^ 62 := by decide
  unfold j5 jN
  rw [k5]
  have : ∀ l : List Nat, (∀ g ∈ l, g < 2 ^ 60) → (ofN l).map (fun a => Go.bits .andNot .i64 (m : Int) a) = l.flatMap (fun g => ofN (if false = true then (eL frees n 0).map (fun p => nd m g ||| p) else [nd m g])) := by
    intro l
    induction l with
    | nil => intro _; rfl
    | cons g t ih =>
      intro h
      have hg := h g List.mem_cons_self
      rw [List.flatMap_cons, ← ih (fun x hx => h x (List.mem_cons_of_mem _ hx)), if_neg (by decide)]
      show Go.bits .andNot .i64 (m : Int) (g : Int) :: _ = _
      rw [sT K6.i _ _ (by omega) (by omega)]
      rfl
  exact this _ (ki haves n 0 (Nat.two_pow_pos 60) hh)
theorem sS (n : Nat) : ((n : Int) == 0) = (n == 0) := by
  cases n <;> rfl
theorem ya (sq : List (dm)) (es : List Nat) (he : sq.map (·.f3) = ofN es) (hl : ∀ e ∈ es, e < 2 ^ 60) (m : Nat) (hm : m < 2 ^ 60) : (sq.filter (fp (m : Int))).map (·.f3) = ofN (lI es m) := by
  have h62 : (2 : Nat) ^ 60 < 2 ^ 62 := by decide
  have e1 : fp (m : Int) = (fun x => Go.bits .andNot .u64 x (m : Int) == 0) ∘ (fun q : dm => q.f3) := rfl
  rw [e1, ← List.filter_map, he]
  unfold ofN lI
  rw [List.filter_map]
  congr 1
  apply List.filter_congr
  intro e hee
  have := hl e hee
  simp only [Function.comp]
  rw [sT K6.u _ _ (by omega) (by omega), sS]
theorem yV (l : List (dm)) (es : List Nat) (he : l.map (·.f3) = ofN es) (hl : ∀ e ∈ es, e < 2 ^ 60) (m : Nat) (hm : m < 2 ^ 60) : qT (m : Int) l = ((es.foldl nd m : Nat) : Int) := by
  have h62 : (2 : Nat) ^ 60 < 2 ^ 62 := by decide
  have e1 : qT (m : Int) l = (l.map (·.f3)).foldl (fun a x => Go.bits .andNot .u64 a x) (m : Int) := by unfold qT; rw [List.foldl_map]
  rw [e1, he]
  clear e1 he
  induction es generalizing m with
  | nil => rfl
  | cons e t ih =>
    have hee := hl e List.mem_cons_self
    show (ofN t).foldl _ (Go.bits .andNot .u64 (m : Int) (e : Int)) = _
    rw [sT K6.u _ _ (by omega) (by omega), List.foldl_cons]
    exact ih (fun x hx => hl x (List.mem_cons_of_mem _ hx)) _ (k6 hm)
theorem yY (sq : List (dm)) (es : List Nat) (he : sq.map (·.f3) = ofN es) (hl : ∀ e ∈ es, e < 2 ^ 60) (s : Int) (tidy : Bool) (m : Nat) (hm : m < 2 ^ 60) : pH sq s tidy (m : Int) = tI es s tidy m := by
  have h1 := ya sq es he hl m hm
  have h2 : (sq.filter (fp (m : Int))).length = (lI es m).length := by
    have := congrArg List.length h1
    simpa [ofN] using this
  have h3 := yV _ _ h1 (fun e hee => hl e (List.mem_filter.1 hee).1) m hm
  unfold pH tI
  rw [h2, h3]
  congr 2
  apply decide_eq_decide.2
  rw [← yB]
  omega
theorem zt (sq : List (fz)) (es : List Nat) (he : sq.map (·.f3) = ofN es) (hl : ∀ e ∈ es, e < 2 ^ 60) (hn : sq.length ≤ 1000) (m : Nat) (hm : m < 2 ^ 60) : ∀ (d k i acc : Nat), i + d = sq.length → d < k → acc ≤ i →
    cM.l0 k (m : Int) (acc : Int) sq (sq.length : Int) (i : Int) = some ((acc + (lI (es.drop i) m).length : Nat) : Int) := by
  have h62 : (2 : Nat) ^ 60 < 2 ^ 62 := by decide
  have hlen : es.length = sq.length := by have := congrArg List.length he; simpa [ofN] using this.symm
  intro d
  induction d with
  | zero =>
    intro k i acc hi hk ha
    obtain ⟨k, rfl⟩ : ∃ j, k = j + 1 := ⟨k - 1, by omega⟩
    simp only [cM.l0]
    rw [if_neg (by omega), gI es i (by omega)]
    rfl
  | succ d ih =>
    intro k i acc hi hk ha
    obtain ⟨k, rfl⟩ : ∃ j, k = j + 1 := ⟨k - 1, by omega⟩
    have hlt : i < es.length := by omega
    have hs1 : wrap64 ((acc : Int) + 1) = ((acc + 1 : Nat) : Int) := by rw [iV (by omega) (by omega)]; omega
    have hs2 : wrap64 ((i : Int) + 1) = ((i + 1 : Nat) : Int) := by rw [iV (by omega) (by omega)]; omega
    have hx : (dc sq (i : Int)).f3 = ((es[i] : Nat) : Int) := by
      have h1 : (sq.map (·.f3))[i]? = (ofN es)[i]? := by rw [he]
      rw [List.getElem?_map, ofN, List.getElem?_map, List.getElem?_eq_getElem hlt, List.getElem?_eq_getElem (by omega : i < sq.length)] at h1
      unfold dc
      rw [Int.toNat_natCast, List.getD_eq_getElem?_getD, List.getElem?_eq_getElem (by omega : i < sq.length)]
      exact Option.some.inj h1
    have hee := hl _ (List.getElem_mem hlt)
    have hd : es.drop i = es[i] :: es.drop (i + 1) := List.drop_eq_getElem_cons hlt
    have H1 := aa.mk hs1
    have H2 := aa.mk hs2
    have HX := aa.mk hx
    clear hs1 hs2 hx
    have i1 := ih k (i + 1) (acc + 1) (by omega) (by omega) (by omega)
    have i2 := ih k (i + 1) acc (by omega) (by omega) (by omega)
    simp only [cM.l0]
    rw [if_pos (by omega), if_pos (by omega), if_pos (by omega), HX.out, lJ K6.i _ _ (by omega) (by omega), H1.out, H2.out, i1, i2, hd]
    unfold lI
    rw [List.filter_cons]
    by_cases hc : m &&& es[i] = es[i]
    · have h0 := (and_self_iff _ _).1 hc
      rw [if_pos (by rw [hc]), if_pos (by simp [h0]), List.length_cons, Nat.add_right_comm, Nat.add_assoc]
    · have h0 : ¬ nd es[i] m = 0 := fun h => hc ((and_self_iff _ _).2 h)
      rw [if_neg (fun h => hc (Int.natCast_inj.1 h)), if_neg (by simpa using h0)]
theorem AF (sq : List (fz)) (es : List Nat) (he : sq.map (·.f3) = ofN es) (hl : ∀ e ∈ es, e < 2 ^ 60) (hn : sq.length ≤ 1000) (m : Nat) (hm : m < 2 ^ 60) : ∀ (d k i acc : Nat), i + d = sq.length → d < k → acc < 2 ^ 60 →
    cC.l0 k (m : Int) (acc : Int) sq (sq.length : Int) (i : Int) = some (((lI (es.drop i) m).foldl (fun a e => a ||| e) acc : Nat) : Int) := by
  have h62 : (2 : Nat) ^ 60 < 2 ^ 62 := by decide
  have hlen : es.length = sq.length := by have := congrArg List.length he; simpa [ofN] using this.symm
  intro d
  induction d with
  | zero =>
    intro k i acc hi hk ha
    obtain ⟨k, rfl⟩ : ∃ j, k = j + 1 := ⟨k - 1, by omega⟩
    simp only [cC.l0]
    rw [if_neg (by omega), gI es i (by omega)]
    rfl
  | succ d ih =>
    intro k i acc hi hk ha
    obtain ⟨k, rfl⟩ : ∃ j, k = j + 1 := ⟨k - 1, by omega⟩
    have hlt : i < es.length := by omega
    have hs2 : wrap64 ((i : Int) + 1) = ((i + 1 : Nat) : Int) := by rw [iV (by omega) (by omega)]; omega
    have hx : (dc sq (i : Int)).f3 = ((es[i] : Nat) : Int) := by
      have h1 : (sq.map (·.f3))[i]? = (ofN es)[i]? := by rw [he]
      rw [List.getElem?_map, ofN, List.getElem?_map, List.getElem?_eq_getElem hlt, List.getElem?_eq_getElem (by omega : i < sq.length)] at h1
      unfold dc
      rw [Int.toNat_natCast, List.getD_eq_getElem?_getD, List.getElem?_eq_getElem (by omega : i < sq.length)]
      exact Option.some.inj h1
    have hee := hl _ (List.getElem_mem hlt)
    have hd : es.drop i = es[i] :: es.drop (i + 1) := List.drop_eq_getElem_cons hlt
    have H2 := aa.mk hs2
    have HX := aa.mk hx
    clear hs2 hx
    have i1 := ih k (i + 1) (acc ||| es[i]) (by omega) (by omega) (Nat.or_lt_two_pow ha hee)
    have i2 := ih k (i + 1) acc (by omega) (by omega) ha
    simp only [cC.l0]
    rw [if_pos (by omega), if_pos (by omega), if_pos (by omega), HX.out, lJ K6.i _ _ (by omega) (by omega), qE K6.i _ _ (by omega) (by omega), H2.out, i1, i2, hd]
    unfold lI
    rw [List.filter_cons]
    by_cases hc : m &&& es[i] = es[i]
    · have h0 := (and_self_iff _ _).1 hc
      rw [if_pos (by rw [hc]), if_pos (by simp [h0]), List.foldl_cons]
    · have h0 : ¬ nd es[i] m = 0 := fun h => hc ((and_self_iff _ _).2 h)
      rw [if_neg (fun h => hc (Int.natCast_inj.1 h)), if_neg (by simpa using h0)]
theorem yC (sq : List (fz)) (es : List Nat) (he : sq.map (·.f3) = ofN es) (hl : ∀ e ∈ es, e < 2 ^ 60) (hn : sq.length ≤ 1000) (s : Int) (tidy : Bool) (L : List Nat) (hL : ∀ x ∈ L, x < 2 ^ 60) (hLl : L.length ≤ 10000000) :
    ∀ (d k i : Nat) (acc : List Int), i + d = L.length → d + sq.length + 1 < k → acc.length ≤ i →
    bK.l0 k s tidy sq acc (ofN L) ((ofN L).length : Int) (i : Int) = some (acc ++ ofN ((L.drop i).filter (tI es s tidy))) := by
  have hLo : (ofN L).length = L.length := by unfold ofN; rw [List.length_map]
  intro d
  induction d with
  | zero =>
    intro k i acc hi hk ha
    obtain ⟨k, rfl⟩ : ∃ j, k = j + 1 := ⟨k - 1, by omega⟩
    simp only [bK.l0]
    rw [if_neg (by omega), gI L i (by omega)]
    simp [ofN]
  | succ d ih =>
    intro k i acc hi hk ha
    obtain ⟨k, rfl⟩ : ∃ j, k = j + 1 := ⟨k - 1, by omega⟩
    have hlt : i < L.length := by omega
    have hx : rd (ofN L) (i : Int) = ((L[i] : Nat) : Int) := by
      rw [uE, List.getD_eq_getElem?_getD, ofN, List.getElem?_map, List.getElem?_eq_getElem hlt]
      rfl
    have hm := hL _ (List.getElem_mem hlt)
    have c1 : cM.f k sq ((L[i] : Nat) : Int) = some (((lI es L[i]).length : Nat) : Int) := by
      have := zt sq es he hl hn L[i] hm sq.length k 0 0 (by omega) (by omega) (by omega)
      rw [Int.natCast_zero, List.drop_zero, Nat.zero_add] at this
      exact this
    have c2 : cC.f k sq ((L[i] : Nat) : Int) = some ((orL (lI es L[i]) : Nat) : Int) := by
      have := AF sq es he hl hn L[i] hm sq.length k 0 0 (by omega) (by omega) (by decide)
      rw [Int.natCast_zero, List.drop_zero] at this
      exact this
    have hs2 : aa (wrap64 ((i : Int) + 1) = ((i + 1 : Nat) : Int)) := ⟨by rw [iV (by omega) (by omega)]; omega⟩
    have hd : L.drop i = L[i] :: L.drop (i + 1) := List.drop_eq_getElem_cons hlt
    have i1 := ih k (i + 1) (acc ++ [((L[i] : Nat) : Int)]) (by omega) (by omega) (by rw [List.length_append, List.length_singleton]; omega)
    have i2 := ih k (i + 1) acc (by omega) (by omega) (by omega)
    have HX := aa.mk hx
    have C1 := aa.mk c1
    have C2 := aa.mk c2
    clear hx c1 c2
    simp only [bK.l0]
    rw [if_pos (by omega), if_pos (by omega), if_pos (by omega), HX.out, C1.out]
    simp only [Option.bind_some]
    rw [hs2.out]
    have hb : acc.length < 17592186044416 := by omega
    have ek : tI es s tidy L[i] = (decide (((lI es L[i]).length : Int) = s) && (!tidy || decide (orL (lI es L[i]) = L[i]))) := rfl
    rw [hd, List.filter_cons, ek]
    by_cases h1 : ((lI es L[i]).length : Int) = s
    · rw [if_pos h1, decide_eq_true h1]
      cases tidy with
      | false =>
        rw [if_neg (by decide), if_pos hb, i1]
        simp [ofN]
      | true =>
        rw [if_pos rfl, C2.out]
        simp only [Option.bind_some]
        by_cases h2 : orL (lI es L[i]) = L[i]
        · rw [if_pos (by rw [h2]), if_pos hb, i1, decide_eq_true h2]
          simp [ofN]
        · rw [if_neg (fun h => h2 (Int.natCast_inj.1 h)), i2, decide_eq_false h2]
          simp
    · rw [if_neg h1, i2, decide_eq_false h1]
      simp
end Go.Proofs.YtmjlmloomkodpaaGreatDoor.PA
namespace Go.Proofs.YtmjlmloomkodpaaGreatDoor.PA
open Go.RowKit Go.Proofs.ae.aw Go.Proofs.ae.aJ Go.Proofs.ae.aN Go.Proofs.YtmjlmloomkodpaaGreatDoor.Bt
set_option linter.unusedVariables false
set_option linter.unusedSimpArgs false
theorem yM (l : List Int) (hl : l.length ≤ 9223372036854775807) (d : Nat) : ∀ (k i : Nat), 1 ≤ i → l.length - i = d → d < k → bz.l0 k l (i : Int) = some (rising (l.drop (i - 1))) := by
  induction d with
  | zero =>
    intro k i h1 hd hk
    obtain ⟨k, rfl⟩ : ∃ m, k = m + 1 := ⟨k - 1, by omega⟩
    simp only [bz.l0]
    rw [if_neg (by omega)]
    by_cases h : i = l.length
    · rw [gq l (i - 1) (by omega), show i - 1 + 1 = l.length by omega, List.drop_length]
      rfl
    · rw [List.drop_eq_nil_of_le (by omega)]
      rfl
  | succ d ih =>
    intro k i h1 hd hk
    obtain ⟨k, rfl⟩ : ∃ m, k = m + 1 := ⟨k - 1, by omega⟩
    simp only [bz.l0]
    rw [iV (by omega) (by omega), iV (by omega) (by omega), if_pos (by omega), if_pos (by omega), if_pos (by omega), if_pos (by omega)]
    rw [gq l (i - 1) (by omega), show i - 1 + 1 = i by omega, gq l i (by omega)]
    simp only [rising]
    rw [show ((i : Int) - 1) = ((i - 1 : Nat) : Int) by omega]
    by_cases h : rd l ((i - 1 : Nat) : Int) ≥ rd l (i : Int)
    · rw [if_pos h]
      simp [show ¬ rd l ((i - 1 : Nat) : Int) < rd l (i : Int) by omega]
    · rw [if_neg h, show (i : Int) + 1 = ((i + 1 : Nat) : Int) by omega, ih k (i + 1) (by omega) (by omega) (by omega), show i + 1 - 1 = i by omega, gq l i (by omega)]
      simp [show rd l ((i - 1 : Nat) : Int) < rd l (i : Int) by omega]
theorem kd (x lo hi : Int) : cz.f x lo hi = some (inB lo hi x) := by
  unfold cz.f inB
  by_cases h : x ≥ lo
  · rw [if_pos h, decide_eq_true (show lo ≤ x from h), Bool.true_and]
  · rw [if_neg h, decide_eq_false (show ¬ lo ≤ x from h), Bool.false_and]
theorem D5 (l : List Int) (lo hi : Int) (hl : l.length ≤ 9223372036854775807) (d : Nat) : ∀ (k i : Nat), i + d = l.length → d < k → df.l0 k lo hi l (l.length : Int) (i : Int) = some ((l.drop i).all (inB lo hi)) := by
  induction d with
  | zero =>
    intro k i hd hk
    obtain ⟨k, rfl⟩ : ∃ m, k = m + 1 := ⟨k - 1, by omega⟩
    simp only [df.l0]
    rw [if_neg (by omega), gI l i (by omega)]
    rfl
  | succ d ih =>
    intro k i hd hk
    obtain ⟨k, rfl⟩ : ∃ m, k = m + 1 := ⟨k - 1, by omega⟩
    simp only [df.l0]
    rw [if_pos (by omega), if_pos (by omega), if_pos (by omega), kd, iV (by omega) (by omega), show (i : Int) + 1 = ((i + 1 : Nat) : Int) by omega, ih k (i + 1) (by omega) (by omega), gq l i (by omega), List.all_cons]
    simp only [Option.bind_some]
    cases inB lo hi (rd l (i : Int))
    · rfl
    · rfl
theorem tr {a : Int} {l : List Int} (h : rising (a :: l) = true) : rising l = true := by
  cases l with
  | nil => rfl
  | cons b t => simp only [rising, Bool.and_eq_true] at h; exact h.2
theorem rising_pairwise : ∀ (l : List Int), rising l = true → l.Pairwise (· < ·)
  | [], _ => List.Pairwise.nil
  | [a], _ => by simp
  | a :: b :: t, h => by
    have h2 := rising_pairwise (b :: t) (tr h)
    simp only [rising, Bool.and_eq_true, decide_eq_true_eq] at h
    refine List.Pairwise.cons (fun x hx => ?_) h2
    rcases List.mem_cons.1 hx with rfl | hx
    · exact h.1
    · have := (List.pairwise_cons.1 h2).1 x hx
      omega
theorem mB (l : List Int) (hr : rising l = true) (n : Nat) (hb : l.all (inB 0 ((n : Int) - 1)) = true) : l.length ≤ n := by
  have hp := rising_pairwise l hr
  have hmem : ∀ x ∈ l, 0 ≤ x ∧ x < n := fun x hx => by
    have := List.all_eq_true.1 hb x hx
    rw [kA] at this
    omega
  have hnd : (toN l).Pairwise (· < ·) := by
    unfold toN
    rw [List.pairwise_map]
    exact hp.imp_of_mem (fun {a b} ha hb hab => by have := hmem a ha; have := hmem b hb; omega)
  have h2 := oe n (toN l) hnd (fun x hx => by
    obtain ⟨y, hy, rfl⟩ := List.mem_map.1 hx
    have := hmem y hy
    omega)
  have h3 := fI n (fo 0 (toN l))
  rw [h2] at h3
  unfold toN at h3
  rwa [List.length_map] at h3
theorem pM (l : List Int) (n : Nat) (hn : n ≤ 100) (hl : l.length ≤ 1000000) (k : Nat) (hk : l.length + 2 < k) : bz.f k l (((n : Nat) : Int) - 1) = some (rising l && l.all (inB 0 ((n : Int) - 1))) := by
  unfold bz.f
  rw [iV (by omega) (by omega)]
  obtain ⟨k, rfl⟩ : ∃ m, k = m + 1 := ⟨k - 1, by omega⟩
  by_cases h : (l.length : Int) > (n : Int) - 1 + 1
  · rw [if_pos h]
    simp only [bz.j0]
    rw [if_pos trivial]
    congr 1
    symm
    rw [Bool.and_eq_false_iff]
    by_cases hr : rising l = true
    · right
      by_cases hb : l.all (inB 0 ((n : Int) - 1)) = true
      · have := mB l hr n hb
        omega
      · exact Bool.eq_false_iff.2 hb
    · left
      exact Bool.eq_false_iff.2 hr
  · rw [if_neg h]
    have ha : df.f (k + 1) l 0 ((n : Int) - 1) = some (l.all (inB 0 ((n : Int) - 1))) := by
      have := D5 l 0 ((n : Int) - 1) (by omega) l.length (k + 1) 0 (by omega) (by omega)
      exact this
    rw [ha]
    simp only [Option.bind_some, bz.j0]
    cases hb : l.all (inB 0 ((n : Int) - 1))
    · rw [if_pos (by decide), Bool.and_false]
    · rw [if_neg (by decide), Bool.and_true]
      have := yM l (by omega) (l.length - 1) k 1 (by omega) rfl (by omega)
      exact this
theorem u4 (w h : Int) : fb.f w h = some (inB 1 4 w && inB 1 4 h) := by
  unfold fb.f
  rw [kd, kd]
  cases inB 1 4 w <;> rfl
theorem yg {w : Int} (h : inB 1 4 w = true) : ∃ n : Nat, w = n ∧ 1 ≤ n ∧ n ≤ 4 := by
  rw [kA] at h
  exact ⟨w.toNat, by omega, by omega, by omega⟩
theorem yi (w h : Int) (A U : List Int) (hA : A.length ≤ 1000000) (hU : U.length ≤ 1000000) (k : Nat) (hk : 1000010 < k) : fG.f k w h A U = some (ig w h A U) := by
  unfold fG.f ig
  rw [u4]
  simp only [Option.bind_some]
  cases hw : inB 1 4 w
  · rw [Bool.false_and, Bool.false_and, if_neg (by decide)]
  cases hh : inB 1 4 h
  · rw [Bool.and_false, Bool.true_and, Bool.false_and, if_neg (by decide)]
  obtain ⟨w, rfl, hw1, hw4⟩ := yg hw
  obtain ⟨h, rfl, hh1, hh4⟩ := yg hh
  have hl2 := jf w h hw4 hh4
  have E1 : wrap64 ((wrap64 ((w : Int) * (wrap64 ((h : Int) + 1)))) - 1) = ((w * (h + 1) : Nat) : Int) - 1 ∧ wrap64 ((wrap64 ((wrap64 ((w : Int) + 1)) * (h : Int))) - 1) = ((h * (w + 1) : Nat) : Int) - 1 ∧ (w : Int) * ((h : Int) + 1) - 1 = ((w * (h + 1) : Nat) : Int) - 1 ∧ (h : Int) * ((w : Int) + 1) - 1 = ((h * (w + 1) : Nat) : Int) - 1 := by
    have e : ∀ w : Nat, w < 5 → ∀ h : Nat, h < 5 → wrap64 ((wrap64 ((w : Int) * (wrap64 ((h : Int) + 1)))) - 1) = ((w * (h + 1) : Nat) : Int) - 1 ∧ wrap64 ((wrap64 ((wrap64 ((w : Int) + 1)) * (h : Int))) - 1) = ((h * (w + 1) : Nat) : Int) - 1 ∧ (w : Int) * ((h : Int) + 1) - 1 = ((w * (h + 1) : Nat) : Int) - 1 ∧ (h : Int) * ((w : Int) + 1) - 1 = ((h * (w + 1) : Nat) : Int) - 1 := by decide +kernel
    exact e w (by omega) h (by omega)
  rw [E1.1, E1.2.1, E1.2.2.1, E1.2.2.2]
  clear E1
  rw [pM A _ (by omega) hA k (by omega), pM U _ (by omega) hU k (by omega)]
  simp only [Option.bind_some, Bool.true_and]
  rw [if_pos trivial]
  cases rising A <;> cases rising U <;> cases A.all (inB 0 (((w * (h + 1) : Nat) : Int) - 1)) <;> cases U.all (inB 0 (((h * (w + 1) : Nat) : Int) - 1)) <;> rfl
structure Fig (w h : Int) (A U : List Int) (w' h' : Nat) : Prop where
  ew : w = w'
  eh : h = h'
  w1 : 1 ≤ w'
  w4 : w' ≤ 4
  h1 : 1 ≤ h'
  h4 : h' ≤ 4
  rA : A.Pairwise (· < ·)
  rU : U.Pairwise (· < ·)
  mA : ∀ x ∈ A, 0 ≤ x ∧ x < (w' * (h' + 1) : Nat)
  mU : ∀ x ∈ U, 0 ≤ x ∧ x < (h' * (w' + 1) : Nat)
  lA : A.length ≤ 20
  lU : U.length ≤ 20
theorem zn {w h : Int} {A U : List Int} (hf : ig w h A U = true) : ∃ w' h', Fig w h A U w' h' := by
  unfold ig at hf
  simp only [Bool.and_eq_true] at hf
  obtain ⟨hw, hh, rA, rU, aA, aU⟩ := hf
  obtain ⟨w, rfl, hw1, hw4⟩ := yg hw
  obtain ⟨h, rfl, hh1, hh4⟩ := yg hh
  have hl2 := jf w h hw4 hh4
  have e1 : (w : Int) * ((h : Int) + 1) - 1 = ((w * (h + 1) : Nat) : Int) - 1 := by
    have e : ∀ w : Nat, w < 5 → ∀ h : Nat, h < 5 → (w : Int) * ((h : Int) + 1) - 1 = ((w * (h + 1) : Nat) : Int) - 1 := by decide +kernel
    exact e w (by omega) h (by omega)
  have e2 : (h : Int) * ((w : Int) + 1) - 1 = ((h * (w + 1) : Nat) : Int) - 1 := by
    have e : ∀ w : Nat, w < 5 → ∀ h : Nat, h < 5 → (h : Int) * ((w : Int) + 1) - 1 = ((h * (w + 1) : Nat) : Int) - 1 := by decide +kernel
    exact e w (by omega) h (by omega)
  rw [e1] at aA
  rw [e2] at aU
  have l1 := mB A rA _ aA
  have l2 := mB U rU _ aU
  clear e1 e2
  refine ⟨w, h, rfl, rfl, hw1, hw4, hh1, hh4, rising_pairwise A rA, rising_pairwise U rU, fun x hx => ?_, fun x hx => ?_, by omega, by omega⟩
  · have := List.all_eq_true.1 aA x hx
    rw [kA] at this
    omega
  · have := List.all_eq_true.1 aU x hx
    rw [kA] at this
    omega
section
variable {w h : Int} {A U : List Int} {w' h' : Nat}
theorem Fig.le (F : Fig w h A U w' h') : w' * (h' + 1) ≤ 20 ∧ h' * (w' + 1) ≤ 20 := jf w' h' F.w4 F.h4
theorem Fig.a40 (F : Fig w h A U w' h') : ∀ x ∈ A, 0 ≤ x ∧ x < 40 := fun x hx => by have := F.mA x hx; have := F.le; omega
theorem Fig.u40 (F : Fig w h A U w' h') : ∀ x ∈ U, 0 ≤ x ∧ x < 40 := fun x hx => by have := F.mU x hx; have := F.le; omega
def pO (w h : Nat) (A U : List Int) : List Nat := toN A ++ (toN U).map (w * (h + 1) + ·)
theorem qS (w h : Nat) (A U : List Int) : mkM w h A U = fo 0 (pO w h A U) := (qD 0 _ _).symm
theorem Fig.xc (F : Fig w h A U w' h') : ∀ x ∈ pO w' h' A U, x < w' * (h' + 1) + h' * (w' + 1) := by
  intro x hx
  rcases List.mem_append.1 hx with hx | hx
  · obtain ⟨y, hy, rfl⟩ := List.mem_map.1 hx
    have := F.mA y hy
    omega
  · obtain ⟨z, hz, rfl⟩ := List.mem_map.1 hx
    obtain ⟨y, hy, rfl⟩ := List.mem_map.1 hz
    have := F.mU y hy
    omega
theorem Fig.lt (F : Fig w h A U w' h') : mkM w' h' A U < 2 ^ (w' * (h' + 1) + h' * (w' + 1)) := by
  rw [qS]
  exact q8 _ 0 (Nat.two_pow_pos _) F.xc
theorem Fig.xY (F : Fig w h A U w' h') : mkM w' h' A U < 2 ^ 60 := Nat.lt_of_lt_of_le F.lt (Nat.pow_le_pow_right (by decide) (by have := F.le; omega))
theorem Fig.u7 (F : Fig w h A U w' h') : ev (w' * (h' + 1) + h' * (w' + 1)) (mkM w' h' A U) = pO w' h' A U := by
  rw [qS]
  refine oe _ _ ?_ F.xc
  unfold pO toN
  rw [List.pairwise_append]
  refine ⟨?_, ?_, fun x hx y hy => ?_⟩
  · rw [List.pairwise_map]
    exact F.rA.imp_of_mem (fun {a b} ha hb hab => by have := F.mA a ha; have := F.mA b hb; omega)
  · rw [List.map_map, List.pairwise_map]
    exact F.rU.imp_of_mem (fun {a b} ha hb hab => by have := F.mU a ha; have := F.mU b hb; simp only [Function.comp]; omega)
  · obtain ⟨a, ha, rfl⟩ := List.mem_map.1 hx
    obtain ⟨z, hz, rfl⟩ := List.mem_map.1 hy
    have := F.mA a ha
    omega
theorem Fig.count (F : Fig w h A U w' h') : (ev 64 (mkM w' h' A U)).length = A.length + U.length := by
  obtain ⟨d, hd⟩ : ∃ d, 64 = (w' * (h' + 1) + h' * (w' + 1)) + d := ⟨64 - (w' * (h' + 1) + h' * (w' + 1)), by have := F.le; omega⟩
  rw [hd, lV _ _ _ F.lt, F.u7]
  unfold pO toN
  rw [List.length_append, List.length_map, List.length_map, List.length_map]
theorem Fig.set (F : Fig w h A U w' h') (k : Nat) (hk : 50 < k) : aI.f k w h A U = some ((mkM w' h' A U : Nat) : Int) := by
  rw [F.ew, F.eh]
  have := F.lA; have := F.lU
  exact yK w' h' F.w4 F.h4 A U F.a40 F.u40 (by omega) (by omega) k (by omega)
theorem Fig.mask (F : Fig w h A U w' h') (k : Nat) (hk : 50 < k) : bQ.f k w h A U = some ((mkM w' h' A U : Nat) : Int) := by
  rw [F.ew, F.eh]
  have := F.lA; have := F.lU
  exact AJ w' h' F.w4 F.h4 A U F.a40 F.u40 (by omega) (by omega) k (by omega)
end
def pcA (x : Int) : Int := IntKind.u64.wrap ((Go.bits .and .u64 (x / 2) 6148914691236517205) + (Go.bits .and .u64 x 6148914691236517205))
def pcB (x : Int) : Int := IntKind.u64.wrap ((Go.bits .and .u64 (x / 4) 3689348814741910323) + (Go.bits .and .u64 x 3689348814741910323))
def pcC (x : Int) : Int := Go.bits .and .u64 (IntKind.u64.wrap ((x / 16) + x)) 1085102592571150095
def pcD (x : Int) : Int := IntKind.u64.wrap (x + x / 256)
def pcE (x : Int) : Int := IntKind.u64.wrap (x + x / 65536)
def pcF (x : Int) : Int := IntKind.u64.wrap (x + x / 4294967296)
theorem tB (x : Int) : ep.f x = some (Go.bits .and .i64 (wrap64 (pcF (pcE (pcD (pcC (pcB (pcA x))))))) 127) := rfl
theorem xS (x : Nat) (hx : x < 2 ^ 60) : ep.f (x : Int) = some (((ev 64 x).length : Nat) : Int) := by
  have hx1 : x < 1152921504606846976 := Nat.lt_of_lt_of_le hx (by decide)
  have w62 : ∀ n : Nat, n < 4611686018427387904 → IntKind.u64.wrap (n : Int) = (n : Int) := fun n hn => K6.wrap K6.u n (Nat.lt_of_lt_of_le hn (by decide))
  have hd : ∀ (n m : Nat), ((n : Int) / (m : Int)) = ((n / m : Nat) : Int) := fun n m => rfl
  have e1 : pcA (x : Int) = (((x / 2 &&& 6148914691236517205) + (x &&& 6148914691236517205) : Nat) : Int) := by
    have l1 : x / 2 &&& 6148914691236517205 ≤ x / 2 := Nat.and_le_left
    have l2 : x &&& 6148914691236517205 ≤ x := Nat.and_le_left
    unfold pcA
    rw [show ((x : Int) / 2) = ((x / 2 : Nat) : Int) from rfl, show (6148914691236517205 : Int) = ((6148914691236517205 : Nat) : Int) from rfl, bits_and_u64_nat _ _ (by omega) (by decide), bits_and_u64_nat _ _ (by omega) (by decide), ← Int.natCast_add, w62 _ (by omega)]
  obtain ⟨y1, hy1⟩ : ∃ y, y = (x / 2 &&& 6148914691236517205) + (x &&& 6148914691236517205) := ⟨_, rfl⟩
  have b1 : y1 < 1729382256910270464 := by
    have l1 : x / 2 &&& 6148914691236517205 ≤ x / 2 := Nat.and_le_left
    have l2 : x &&& 6148914691236517205 ≤ x := Nat.and_le_left
    omega
  rw [← hy1] at e1
  have e2 : pcB (y1 : Int) = (((y1 / 4 &&& 3689348814741910323) + (y1 &&& 3689348814741910323) : Nat) : Int) := by
    have l1 : y1 / 4 &&& 3689348814741910323 ≤ y1 / 4 := Nat.and_le_left
    have l2 : y1 &&& 3689348814741910323 ≤ y1 := Nat.and_le_left
    unfold pcB
    rw [show ((y1 : Int) / 4) = ((y1 / 4 : Nat) : Int) from rfl, show (3689348814741910323 : Int) = ((3689348814741910323 : Nat) : Int) from rfl, bits_and_u64_nat _ _ (by omega) (by decide), bits_and_u64_nat _ _ (by omega) (by decide), ← Int.natCast_add, w62 _ (by omega)]
  obtain ⟨y2, hy2⟩ : ∃ y, y = (y1 / 4 &&& 3689348814741910323) + (y1 &&& 3689348814741910323) := ⟨_, rfl⟩
  have b2 : y2 < 2161727821137838080 := by
    have l1 : y1 / 4 &&& 3689348814741910323 ≤ y1 / 4 := Nat.and_le_left
    have l2 : y1 &&& 3689348814741910323 ≤ y1 := Nat.and_le_left
    omega
  rw [← hy2] at e2
  have e3 : pcC (y2 : Int) = ((((y2 / 16 + y2) &&& 1085102592571150095 : Nat)) : Int) := by
    unfold pcC
    rw [show ((y2 : Int) / 16) = ((y2 / 16 : Nat) : Int) from rfl, ← Int.natCast_add, w62 _ (by omega), show (1085102592571150095 : Int) = ((1085102592571150095 : Nat) : Int) from rfl, bits_and_u64_nat _ _ (by omega) (by decide)]
  obtain ⟨y3, hy3⟩ : ∃ y, y = (y2 / 16 + y2) &&& 1085102592571150095 := ⟨_, rfl⟩
  have b3 : y3 ≤ 1085102592571150095 := by rw [hy3]; exact Nat.and_le_right
  rw [← hy3] at e3
  have e4 : pcD (y3 : Int) = ((y3 + y3 / 256 : Nat) : Int) := by
    unfold pcD
    rw [show ((y3 : Int) / 256) = ((y3 / 256 : Nat) : Int) from rfl, ← Int.natCast_add, w62 _ (by omega)]
  obtain ⟨z2, hz2⟩ : ∃ y, y = y3 + y3 / 256 := ⟨_, rfl⟩
  rw [← hz2] at e4
  have e5 : pcE (z2 : Int) = ((z2 + z2 / 65536 : Nat) : Int) := by
    unfold pcE
    rw [show ((z2 : Int) / 65536) = ((z2 / 65536 : Nat) : Int) from rfl, ← Int.natCast_add, w62 _ (by omega)]
  obtain ⟨z3, hz3⟩ : ∃ y, y = z2 + z2 / 65536 := ⟨_, rfl⟩
  rw [← hz3] at e5
  have e6 : pcF (z3 : Int) = ((z3 + z3 / 4294967296 : Nat) : Int) := by
    unfold pcF
    rw [show ((z3 : Int) / 4294967296) = ((z3 / 4294967296 : Nat) : Int) from rfl, ← Int.natCast_add, w62 _ (by omega)]
  obtain ⟨z4, hz4⟩ : ∃ y, y = z3 + z3 / 4294967296 := ⟨_, rfl⟩
  rw [← hz4] at e6
  have hp := AA x y1 y2 y3 z2 z3 z4 (by omega) hy1 hy2 hy3 hz2 hz3 hz4
  rw [tB, e1, e2, e3, e4, e5, e6]
  have b4 : z4 < 4611686018427387904 := Nat.lt_of_lt_of_le hp.1 (by decide)
  rw [iV (by omega) (by omega), show (127 : Int) = ((127 : Nat) : Int) from rfl, lJ K6.i _ _ hp.1 (by decide), show (127 : Nat) = 2 ^ 7 - 1 by decide, Nat.and_two_pow_sub_one_eq_mod, show (2 : Nat) ^ 7 = 128 by decide, hp.2]
theorem count_eq (x : Nat) (hx : x < 2 ^ 60) : dV.f (x : Int) = some (((ev 64 x).length : Nat) : Int) := by
  unfold dV.f
  rw [xS x hx]
  rfl
def qz (w h : Int) (A U : List Int) (m : Int) (mv : Bool) (s : Int) : Bool :=
  ig w h A U && (decide (w * h ≤ 9) && (inB 0 (if mv then 2 else 4) m && (decide (m ≤ ((A.length + U.length : Nat) : Int)) && inB 0 100 s)))
theorem pB {w h : Int} (hw : inB 1 4 w = true) (hh : inB 1 4 h = true) : wrap64 (w * h) = w * h := by
  obtain ⟨w, rfl, hw1, hw4⟩ := yg hw
  obtain ⟨h, rfl, hh1, hh4⟩ := yg hh
  have e : ∀ w : Nat, w < 5 → ∀ h : Nat, h < 5 → wrap64 ((w : Int) * (h : Int)) = (w : Int) * (h : Int) := by decide +kernel
  exact e w (by omega) h (by omega)
theorem tP {w h : Int} {A U : List Int} (hf : ig w h A U = true) : inB 1 4 w = true ∧ inB 1 4 h = true := by
  unfold ig at hf
  simp only [Bool.and_eq_true] at hf
  exact ⟨hf.1, hf.2.1⟩
theorem yf (w h : Int) (A U : List Int) : dW.f w h A U = some (ig w h A U && decide (w * h ≤ 9)) := by
  unfold dW.f fl.f
  simp only [Option.bind_some]
  cases hf : ig w h A U
  · rw [if_neg (by decide), Bool.false_and]
  · have h2 := tP hf
    rw [if_pos rfl, pB h2.1 h2.2, Bool.true_and]
theorem xG (w h : Int) (A U : List Int) (hA : A.length ≤ 1000000) (hU : U.length ≤ 1000000) (k : Nat) (hk : 1000010 < k) : dU.f k w h A U = some (ig w h A U && decide (w * h ≤ 9)) := by
  unfold dU.f
  rw [yi w h A U hA hU k hk]
  simp only [Option.bind_some]
  cases hf : ig w h A U
  · rw [if_neg (by decide), Bool.false_and]
  · have h2 := tP hf
    rw [if_pos rfl, pB h2.1 h2.2, Bool.true_and]
theorem tN (w h : Int) (A U : List Int) (m : Int) (mv : Bool) : dN.f w h A U m mv = some ((ig w h A U && decide (w * h ≤ 9)) && inB 0 (if mv then 2 else 4) m) := by
  unfold dN.f
  rw [yf, bL.val, bL.val]
  simp only [Option.bind_some]
  cases (ig w h A U && decide (w * h ≤ 9)) <;> cases mv <;> rfl
theorem tE (w h : Int) (A U : List Int) (hA : A.length ≤ 1000000) (hU : U.length ≤ 1000000) (k : Nat) (hk : 1000010 < k) (m : Int) (mv : Bool) : eH.f k w h A U m mv = some ((ig w h A U && decide (w * h ≤ 9)) && inB 0 (if mv then 2 else 4) m) := by
  unfold eH.f
  rw [xG w h A U hA hU k hk, kd, kd]
  simp only [Option.bind_some]
  cases (ig w h A U && decide (w * h ≤ 9)) <;> cases mv <;> rfl
theorem rB (s : Int) : fk.f s = some (inB 0 100 s) := by
  unfold fk.f
  rw [bL.val]
  rfl
theorem qu (s : Int) : dG.f s = some (inB 0 100 s) := by
  unfold dG.f
  rw [kd]
  rfl
theorem pS (b1 b2 b3 q : Bool) (m N : Int) : (if ((b1 && b2) && b3) = true then (if m ≤ N then some q else some false) else some false) = some (b1 && (b2 && (b3 && (decide (m ≤ N) && q)))) := by
  by_cases h : m ≤ N
  · rw [if_pos h, decide_eq_true h]
    cases b1 <;> cases b2 <;> cases b3 <;> rfl
  · rw [if_neg h, decide_eq_false h]
    cases b1 <;> cases b2 <;> cases b3 <;> rfl
theorem zx (b2 b3 q : Bool) (X : Option Bool) (d : Bool) : (if ((false && b2) && b3) = true then X else some false) = some (false && (b2 && (b3 && (d && q)))) := by
  rw [Bool.false_and, Bool.false_and, Bool.false_and, if_neg (by decide)]
theorem nq (w h : Int) (A U : List Int) (m : Int) (mv : Bool) (s : Int) (k : Nat) (hk : 50 < k) : fY.f k w h A U m mv s = some (qz w h A U m mv s) := by
  unfold fY.f qz
  rw [tN, Option.bind_some]
  generalize inB 0 (if mv = true then 2 else 4) m = b3
  generalize decide (w * h ≤ 9) = b2
  rw [rB]
  generalize inB 0 100 s = q
  cases hf : ig w h A U
  · exact zx _ _ _ _ _
  · obtain ⟨w', h', F⟩ := zn hf
    rw [F.set k hk, Option.bind_some, count_eq _ F.xY, F.count, Option.bind_some]
    exact pS _ _ _ _ _ _
theorem pz (w h : Int) (A U : List Int) (m : Int) (mv : Bool) (s : Int) (hA : A.length ≤ 1000000) (hU : U.length ≤ 1000000) (k : Nat) (hk : 1000010 < k) : cN.f k w h A U m mv s = some (qz w h A U m mv s) := by
  have e : wrap64 ((A.length : Int) + (U.length : Int)) = ((A.length + U.length : Nat) : Int) := by rw [iV (by omega) (by omega)]; omega
  unfold cN.f qz
  rw [tE w h A U hA hU k hk, Option.bind_some]
  unfold eI.f
  rw [Option.bind_some, qu, e]
  generalize inB 0 (if mv = true then 2 else 4) m = b3
  generalize decide (w * h ≤ 9) = b2
  generalize inB 0 100 s = q
  generalize ig w h A U = b1
  exact pS _ _ _ _ _ _
end Go.Proofs.YtmjlmloomkodpaaGreatDoor.PA
namespace Go.Proofs.YtmjlmloomkodpaaGreatDoor.PA
open Go.RowKit Go.Proofs.ae.aw Go.Proofs.ae.aJ Go.Proofs.ae.aN Go.Proofs.YtmjlmloomkodpaaGreatDoor.Bt
set_option linter.unusedVariables false
set_option linter.unusedSimpArgs false
def NE (w h : Nat) : Nat := w * (h + 1) + h * (w + 1)
theorem qP (N m : Nat) (hN : N ≤ 60) (hm : m < 2 ^ N) : ev 64 m = ev N m := by
  obtain ⟨d, hd⟩ : ∃ d, 64 = N + d := ⟨64 - N, by omega⟩
  rw [hd, lV _ _ _ hm]
def eX (w h : Nat) (m : Nat) : List Nat := ev (NE w h) m
def eT (w h : Nat) (m : Nat) : List Nat := (List.range (NE w h)).filter (fun i => !m.testBit i)
theorem zk (N m : Nat) (hN : N ≤ 60) : ev 64 (nd (2 ^ N - 1) m) = (List.range N).filter (fun i => !m.testBit i) := by
  have hp := Nat.two_pow_pos N
  have hlt : nd (2 ^ N - 1) m < 2 ^ N := k6 (by omega)
  rw [qP N _ hN hlt]
  unfold ev
  apply List.filter_congr
  intro i hi
  have hi := List.mem_range.1 hi
  rw [eP, Nat.testBit_two_pow_sub_one, decide_eq_true hi, Bool.true_and]
theorem lx (w h m : Nat) (hN : NE w h ≤ 60) : ∀ x ∈ eX w h m, x < 60 := fun x hx => by have := (gn.1 hx).1; omega
theorem lB (w h m : Nat) (hN : NE w h ≤ 60) : ∀ x ∈ eT w h m, x < 60 := fun x hx => by have := List.mem_range.1 (List.mem_filter.1 hx).1; omega
theorem zg (N m : Nat) (hN : N ≤ 60) (hm : m < 2 ^ 60) : jB (m : Int) (ofN ((List.range N).map (2 ^ ·))) = ofN ((ev N m).map (2 ^ ·)) := by
  unfold jB ofN ev
  rw [List.map_map, List.filter_map, List.map_map]
  congr 1
  apply List.filter_congr
  intro i hi
  have hi := List.mem_range.1 hi
  have hp : (2 : Nat) ^ i < 2 ^ 62 := Nat.pow_lt_pow_right (by decide) (by omega)
  show (!(Go.bits .and .i64 (m : Int) ((2 ^ i : Nat) : Int) == 0)) = _
  rw [lJ K6.i _ _ (Nat.lt_of_lt_of_le hm (by decide)) hp]
  cases hb : m.testBit i
  · rw [(ff m i).2 hb]; rfl
  · have : ¬ (((m &&& 2 ^ i : Nat) : Int) = 0) := fun h => by rw [ff, hb] at h; cases h
    rw [beq_eq_false_iff_ne.2 this]; rfl
theorem zl (N m : Nat) (hN : N ≤ 60) (hm : m < 2 ^ 60) : jW (m : Int) (ofN ((List.range N).map (2 ^ ·))) = ofN (((List.range N).filter (fun i => !m.testBit i)).map (2 ^ ·)) := by
  unfold jW ofN
  rw [List.map_map, List.filter_map, List.map_map]
  congr 1
  apply List.filter_congr
  intro i hi
  have hi := List.mem_range.1 hi
  have hp : (2 : Nat) ^ i < 2 ^ 62 := Nat.pow_lt_pow_right (by decide) (by omega)
  show (Go.bits .and .i64 (m : Int) ((2 ^ i : Nat) : Int) == 0) = _
  rw [lJ K6.i _ _ (Nat.lt_of_lt_of_le hm (by decide)) hp]
  cases hb : m.testBit i
  · rw [(ff m i).2 hb]; rfl
  · have : ¬ (((m &&& 2 ^ i : Nat) : Int) = 0) := fun h => by rw [ff, hb] at h; cases h
    rw [beq_eq_false_iff_ne.2 this]; rfl
theorem ra (l : List Nat) (hl : l.length ≤ 64) (h : ∀ x ∈ l, x < 60) : nK (ofN l) = true := by
  unfold nK
  rw [Bool.and_eq_true]
  refine ⟨decide_eq_true (by unfold ofN; rw [List.length_map]; exact hl), List.all_eq_true.2 fun x hx => ?_⟩
  obtain ⟨y, hy, rfl⟩ := List.mem_map.1 hx
  have := h y hy
  rw [Bool.and_eq_true]
  exact ⟨decide_eq_true (by omega), decide_eq_true (by omega)⟩
theorem qN (a n m : Nat) (h : n ≤ m) (ha : 1 ≤ a) : a ^ n ≤ a ^ m := Nat.pow_le_pow_right ha h
theorem pF (w h m n : Nat) (mv : Bool) (hN : NE w h ≤ 40) (hn : n ≤ if mv then 2 else 4) : (jN (eX w h m) (eT w h m) n mv m).length ≤ 3000000 ∧ (eL (eX w h m) n 0).length ≤ 3000000 ∧ (eL (eT w h m) n 0).length ≤ 3000000 := by
  have l1 : (eX w h m).length ≤ 40 := by have := fI (NE w h) m; unfold eX; omega
  have l2 : (eT w h m).length ≤ 40 := by
    have := List.length_filter_le (fun i => !m.testBit i) (List.range (NE w h))
    rw [List.length_range] at this
    unfold eT
    omega
  have c1 := ni (eX w h m) n 0
  have c2 := ni (eT w h m) n 0
  have p1 : ((eX w h m).length + 1) ^ n ≤ 41 ^ n := Nat.pow_le_pow_left (by omega) n
  have p2 : ((eT w h m).length + 1) ^ n ≤ 41 ^ n := Nat.pow_le_pow_left (by omega) n
  have ml := mS (eX w h m) (eT w h m) n mv m
  cases mv with
  | false =>
    rw [if_neg (by decide)] at hn ml
    have p3 : (41 : Nat) ^ n ≤ 41 ^ 4 := qN 41 n 4 hn (by decide)
    have e : (41 : Nat) ^ 4 = 2825761 := by decide
    omega
  | true =>
    rw [if_pos rfl] at hn ml
    have p3 : (41 : Nat) ^ n ≤ 41 ^ 2 := qN 41 n 2 hn (by decide)
    have e : (41 : Nat) ^ 2 = 1681 := by decide
    have c3 : (eL (eX w h m) n 0).length * (eL (eT w h m) n 0).length ≤ 1681 * 1681 := Nat.mul_le_mul (by omega) (by omega)
    omega
def n9 (w h m n : Nat) (mv : Bool) (s : Int) (tidy : Bool) : List Nat := (jN (eX w h m) (eT w h m) n mv m).filter (tI (sqM w h) s tidy)
section
variable {w h : Int} {A U : List Int} {w' h' : Nat}
theorem Fig.ne (F : Fig w h A U w' h') : NE w' h' ≤ 40 := by have := F.le; unfold NE; omega
theorem Ag (F : Fig w h A U w' h') (n : Nat) (mv : Bool) (hn : n ≤ if mv then 2 else 4) (s : Int) (tidy : Bool) (k : Nat) (hk : 1000 < k) :
    fX.f k w h A U (n : Int) mv s tidy = some (ofN (n9 w' h' (mkM w' h' A U) n mv s tidy)) := by
  have hne := F.ne
  have hm := F.lt
  have mW := F.xY
  have hsq := oQ w' (by have := F.w4; omega) h' (by have := F.h4; omega)
  have hml := pF w' h' (mkM w' h' A U) n mv hne hn
  have e40 : ∀ e ∈ sqM w' h', e < 2 ^ 60 := fun e he => Nat.lt_of_lt_of_le (hsq.2.2.2.2.2.2 e he) (by decide)
  generalize hM : mkM w' h' A U = M at hm mW hml
  have e1 : ba.f k (M : Int) = some (ofN (eX w' h' M)) := by
    rw [lX M k (Nat.lt_of_lt_of_le mW (by decide)) (by omega), qP (NE w' h') M (by omega) hm]
    rfl
  have hall : (2 : Nat) ^ NE w' h' - 1 < 2 ^ 60 := by
    have : (2 : Nat) ^ NE w' h' ≤ 2 ^ 60 := Nat.pow_le_pow_right (by decide) (by omega)
    have := Nat.two_pow_pos (NE w' h')
    omega
  have e2 : ba.f k (Go.bits .andNot .u64 ((2 ^ NE w' h' - 1 : Nat) : Int) (M : Int)) = some (ofN (eT w' h' M)) := by
    have h62 : (2 : Nat) ^ 60 < 2 ^ 62 := by decide
    rw [sT K6.u _ _ (by omega) (by omega), lX _ k (Nat.lt_trans (k6 hall) h62) (by omega), zk (NE w' h') M (by omega)]
    rfl
  have e3 := yk (eX w' h' M) (eT w' h' M) n mv M mW (lx w' h' M (by omega)) (lB w' h' M (by omega))
  have l1 : (eX w' h' M).length ≤ 64 := by have := fI (NE w' h') M; unfold eX; omega
  have l2 : (eT w' h' M).length ≤ 64 := by
    have := List.length_filter_le (fun i => !M.testBit i) (List.range (NE w' h'))
    rw [List.length_range] at this
    unfold eT
    omega
  have e4 : aI.f k w h A U = some (M : Int) := by rw [F.set k (by omega), hM]
  have e5 : aE.f k w h = some (sqI w' h') := by rw [F.ew, F.eh]; exact Dl w' h' k F.w4 F.h4 (by omega)
  have e6 : cj.f w h = some ((2 ^ NE w' h' - 1 : Nat) : Int) := by
    rw [F.ew, F.eh]
    exact xh w' (by have := F.w4; omega) h' (by have := F.h4; omega)
  unfold fX.f
  rw [e5, Option.bind_some, e4, Option.bind_some, e6, Option.bind_some, e1, Option.bind_some, e2, Option.bind_some, Int.toNat_natCast, e3]
  have hlen : (ofN (jN (eX w' h' M) (eT w' h' M) n mv M)).length ≤ 3000000 := by unfold ofN; rw [List.length_map]; exact hml.1
  have h4 : n ≤ 4 := by cases mv <;> simp at hn <;> omega
  rw [if_pos ⟨by have := hsq.2.2.2.2.1; omega, by have := hsq.2.2.2.2.1; omega, ra _ l1 (lx w' h' M (by omega)), ra _ l2 (lB w' h' M (by omega)), by omega, by omega, by omega⟩]
  congr 1
  unfold n9 ofN
  rw [List.filter_map]
  congr 1
  apply List.filter_congr
  intro y hy
  have hy60 := pG (N := 60) mW (lx w' h' M (by omega)) (lB w' h' M (by omega)) y hy
  exact yY (sqI w' h') (sqM w' h') hsq.2.2.1 e40 s tidy y hy60
theorem AM (F : Fig w h A U w' h') (n : Nat) (mv : Bool) (hn : n ≤ if mv then 2 else 4) (k : Nat) (hk : 1000 < k) :
    fa.f k w h A U (n : Int) mv = some (ofN (jN (eX w' h' (mkM w' h' A U)) (eT w' h' (mkM w' h' A U)) n mv (mkM w' h' A U))) := by
  have hne := F.ne
  have hm := F.lt
  have mW := F.xY
  have hml := pF w' h' (mkM w' h' A U) n mv hne hn
  generalize hM : mkM w' h' A U = M at hm mW hml
  have e4 : bQ.f k w h A U = some (M : Int) := by rw [F.mask k (by omega), hM]
  have e5 : bT.f k w h = some (ofN ((List.range (NE w' h')).map (2 ^ ·))) := by rw [F.ew, F.eh]; exact xX w' h' k F.w4 F.h4 (by omega)
  have hh := lx w' h' M (by omega)
  have hf := lB w' h' M (by omega)
  have e6 : ic (jB (M : Int) (ofN ((List.range (NE w' h')).map (2 ^ ·)))) n 0 = ofN (eL (eX w' h' M) n 0) := by
    rw [zg _ M (by omega) mW]
    exact vA (eX w' h' M) n 0 (by decide) hh
  have e7 : ic (jW (M : Int) (ofN ((List.range (NE w' h')).map (2 ^ ·)))) n 0 = ofN (eL (eT w' h' M) n 0) := by
    rw [zl _ M (by omega) mW]
    exact vA (eT w' h' M) n 0 (by decide) hf
  have h4 : n ≤ 4 := by cases mv <;> simp at hn <;> omega
  unfold fa.f
  rw [e4, Option.bind_some, e5, Option.bind_some, Int.toNat_natCast, e6, e7, Az _ _ n M mW hh hf, xD _ (eT w' h' M) n M mW hh]
  have o1 : ∀ l : List Nat, (ofN l).length = l.length := fun l => by unfold ofN; rw [List.length_map]
  have lp : (jN (eX w' h' M) (eT w' h' M) n true M).length ≤ oq := by
    have ml := mS (eX w' h' M) (eT w' h' M) n true M
    rw [if_pos rfl] at ml
    have : (eL (eX w' h' M) n 0).length * (eL (eT w' h' M) n 0).length ≤ 3000000 * 3000000 := Nat.mul_le_mul hml.2.1 hml.2.2
    unfold oq
    omega
  have hml2 := hml.2.1
  have hml3 := hml.2.2
  rw [o1, o1, o1, if_pos ⟨by omega, by omega, by unfold oq; omega, by unfold oq; omega, lp⟩]
  cases mv with
  | false => rw [if_neg (by decide)]
  | true => rw [if_pos rfl]
theorem yD (F : Fig w h A U w' h') (n : Nat) (mv : Bool) (hn : n ≤ if mv then 2 else 4) (s : Int) (tidy : Bool) (k : Nat) (hk : 4000000 < k) :
    bK.f k w h A U (n : Int) s mv tidy = some (ofN (n9 w' h' (mkM w' h' A U) n mv s tidy)) := by
  have hne := F.ne
  have mW := F.xY
  have hml := pF w' h' (mkM w' h' A U) n mv hne hn
  have e := AM F n mv hn k (by omega)
  have hsq := oQ w' (by have := F.w4; omega) h' (by have := F.h4; omega)
  have e40 : ∀ e ∈ sqM w' h', e < 2 ^ 60 := fun e he => Nat.lt_of_lt_of_le (hsq.2.2.2.2.2.2 e he) (by decide)
  generalize mkM w' h' A U = M at mW hml e
  have e5 : bd.f k w h = some (sqS w' h') := by rw [F.ew, F.eh]; exact Dk w' h' k F.w4 F.h4 (by omega)
  unfold bK.f
  rw [e5, Option.bind_some, e, Option.bind_some]
  have hl30 := hsq.2.2.2.2.2.1
  have hz := yC (sqS w' h') (sqM w' h') hsq.2.2.2.1 e40 (by omega) s tidy (jN (eX w' h' M) (eT w' h' M) n mv M)
    (pG (N := 60) mW (lx w' h' M (by omega)) (lB w' h' M (by omega))) (by omega) _ k 0 [] (Nat.zero_add _) (by omega) (Nat.le_refl _)
  rw [List.drop_zero, List.nil_append, Int.natCast_zero] at hz
  exact hz
theorem rl (F : Fig w h A U w' h') (n : Nat) (mv : Bool) (s : Int) (tidy : Bool) : ∀ y ∈ n9 w' h' (mkM w' h' A U) n mv s tidy, y < 2 ^ NE w' h' := by
  intro y hy
  exact pG (N := NE w' h') F.lt (fun x hx => (gn.1 hx).1) (fun x hx => List.mem_range.1 (List.mem_filter.1 hx).1) y (List.mem_filter.1 hy).1
end
end Go.Proofs.YtmjlmloomkodpaaGreatDoor.PA
namespace Go.Proofs.YtmjlmloomkodpaaGreatDoor.PA
open Go.RowKit Go.Proofs.ae.aw Go.Proofs.ae.aJ Go.Proofs.ae.aN Go.Proofs.YtmjlmloomkodpaaGreatDoor.Bt
set_option linter.unusedVariables false
set_option linter.unusedSimpArgs false
def jJ (w h : Nat) (m : Nat) : S28 := ⟨(w : Int), (h : Int), nJ w h m, nI w h m⟩
theorem qY (w h : Nat) (hw : w ≤ 4) (hh : h ≤ 4) (k : Nat) (hk : 64 < k) : ∀ l : List Nat, (∀ m ∈ l, m < 2 ^ NE w h) → mI k (w : Int) (h : Int) (ofN l) = some (l.map (jJ w h))
  | [], _ => rfl
  | m :: t, hl => by
    have ih := qY w h hw hh k hk t (fun x hx => hl x (List.mem_cons_of_mem _ hx))
    have e := qX w h hw hh m (hl m List.mem_cons_self) k hk
    show mI k (w : Int) (h : Int) ((m : Int) :: ofN t) = _
    simp only [mI]
    rw [e, Option.bind_some, ih]
    rfl
theorem vv (w h : Nat) (hw : w ≤ 4) (hh : h ≤ 4) (m : Nat) (hm : m < 2 ^ NE w h) (k : Nat) (hk : 50 < k) : aI.f k (jJ w h m).f0 (jJ w h m).f1 (jJ w h m).f2 (jJ w h m).f3 = some (m : Int) := by
  have fm := xa w h m hw hh
  have h1 := fm.2.2.1
  have h2 := fm.2.2.2
  have e := yK w h hw hh (nJ w h m) (nI w h m) fm.1 fm.2.1 (by omega) (by omega) k (by omega)
  rw [rz w h m hm] at e
  exact e
theorem ux (w h : Nat) (hw : w ≤ 4) (hh : h ≤ 4) (m : Nat) (hm : m < 2 ^ NE w h) (k : Nat) (hk : 50 < k) : cY.f k (jJ w h m).f0 (jJ w h m).f1 (jJ w h m).f2 (jJ w h m).f3 = some (lC w h (m : Int)) := by
  unfold cY.f
  rw [vv w h hw hh m hm k hk, Option.bind_some]
  show (if 0 ≤ (w : Int) ∧ (w : Int) ≤ 4 ∧ 0 ≤ (h : Int) ∧ (h : Int) ≤ 4 then some (lC (w : Int).toNat (h : Int).toNat (m : Int)) else none) = _
  rw [if_pos ⟨by omega, by omega, by omega, by omega⟩, Int.toNat_natCast, Int.toNat_natCast]
theorem u1 (w h : Nat) (hw : w ≤ 4) (hh : h ≤ 4) (k : Nat) (hk : 64 < k) (l : List Nat) (hl : ∀ m ∈ l, m < 2 ^ NE w h) (hlen : l.length < 1048576) : dX.f k (w : Int) (h : Int) (ofN l) = some (gm k (l.map (jJ w h))) := by
  unfold dX.f
  have o1 : (ofN l).length = l.length := by unfold ofN; rw [List.length_map]
  rw [o1, if_pos hlen, qY w h hw hh k hk l hl, Option.bind_some, if_pos]
  rw [List.all_eq_true]
  intro q hq
  obtain ⟨m, hm, rfl⟩ := List.mem_map.1 hq
  rw [ux w h hw hh m (hl m hm) k (by omega)]
  rfl
theorem An (w h : Nat) (hw : w ≤ 4) (hh : h ≤ 4) (R : List (S28)) (ms : List Nat) (hR : R = ms.map (jJ w h)) (hl : ∀ m ∈ ms, m < 2 ^ NE w h) (hN : NE w h ≤ 40) (hlen : ms.length ≤ 1000) : ∀ (d k i a b : Nat), i + d = ms.length → d + 60 < k → a < 2 ^ 60 → b < 2 ^ 60 →
    cm.l0 k (a : Int) (b : Int) R (R.length : Int) (i : Int) = some ((((ms.drop i).foldl (fun a e => a &&& e) a : Nat) : Int), (((ms.drop i).foldl nd b : Nat) : Int), true) := by
  have h62 : (2 : Nat) ^ 60 < 2 ^ 62 := by decide
  have hlR : R.length = ms.length := by rw [hR, List.length_map]
  intro d
  induction d with
  | zero =>
    intro k i a b hi hk ha hb
    obtain ⟨k, rfl⟩ : ∃ j, k = j + 1 := ⟨k - 1, by omega⟩
    simp only [cm.l0]
    rw [if_neg (by omega), gI ms i (by omega)]
    rfl
  | succ d ih =>
    intro k i a b hi hk ha hb
    obtain ⟨k, rfl⟩ : ∃ j, k = j + 1 := ⟨k - 1, by omega⟩
    have hlt : i < ms.length := by omega
    have hm := hl _ (List.getElem_mem hlt)
    have mW : ms[i] < 2 ^ 60 := Nat.lt_of_lt_of_le hm (Nat.pow_le_pow_right (by decide) (by omega))
    have hx : bJ R (i : Int) = jJ w h ms[i] := by
      unfold bJ
      rw [Int.toNat_natCast, List.getD_eq_getElem?_getD, hR, List.getElem?_map, List.getElem?_eq_getElem hlt]
      rfl
    have e := vv w h hw hh ms[i] hm k (by omega)
    have hd : ms.drop i = ms[i] :: ms.drop (i + 1) := List.drop_eq_getElem_cons hlt
    have ihh := ih k (i + 1) (a &&& ms[i]) (nd b ms[i]) (by omega) (by omega) (Nat.lt_of_le_of_lt Nat.and_le_left ha) (k6 hb)
    have hs : wrap64 ((i : Int) + 1) = ((i + 1 : Nat) : Int) := by rw [iV (by omega) (by omega)]; omega
    have HS := aa.mk hs
    clear hs
    simp only [cm.l0]
    rw [if_pos (by omega), if_pos (by omega), if_pos (by omega), hx, e, Option.bind_some, Option.bind_some, lJ K6.u _ _ (by omega) (by omega), sT K6.u _ _ (by omega) (by omega), HS.out, ihh, hd, List.foldl_cons, List.foldl_cons]
theorem xN (L : List Nat) (hl : ∀ m ∈ L, m < 2 ^ 60) (hlen : L.length ≤ 1000000) : ∀ (d k i a b : Nat), i + d = L.length → d < k → a < 2 ^ 60 → b < 2 ^ 60 →
    dj.l0 k (a : Int) (b : Int) (ofN L) ((ofN L).length : Int) (i : Int) = some ((((L.drop i).foldl (fun a e => a &&& e) a : Nat) : Int), (((L.drop i).foldl (fun a e => a ||| e) b : Nat) : Int)) := by
  have h62 : (2 : Nat) ^ 60 < 2 ^ 62 := by decide
  have o1 : (ofN L).length = L.length := by unfold ofN; rw [List.length_map]
  intro d
  induction d with
  | zero =>
    intro k i a b hi hk ha hb
    obtain ⟨k, rfl⟩ : ∃ j, k = j + 1 := ⟨k - 1, by omega⟩
    simp only [dj.l0]
    rw [if_neg (by omega), gI L i (by omega)]
    rfl
  | succ d ih =>
    intro k i a b hi hk ha hb
    obtain ⟨k, rfl⟩ : ∃ j, k = j + 1 := ⟨k - 1, by omega⟩
    have hlt : i < L.length := by omega
    have hm := hl _ (List.getElem_mem hlt)
    have hx : rd (ofN L) (i : Int) = ((L[i] : Nat) : Int) := by
      rw [uE, List.getD_eq_getElem?_getD, ofN, List.getElem?_map, List.getElem?_eq_getElem hlt]
      rfl
    have hd : L.drop i = L[i] :: L.drop (i + 1) := List.drop_eq_getElem_cons hlt
    have ihh := ih k (i + 1) (a &&& L[i]) (b ||| L[i]) (by omega) (by omega) (Nat.lt_of_le_of_lt Nat.and_le_left ha) (Nat.or_lt_two_pow hb hm)
    have HS : aa (wrap64 ((i : Int) + 1) = ((i + 1 : Nat) : Int)) := ⟨by rw [iV (by omega) (by omega)]; omega⟩
    have HX := aa.mk hx
    clear hx
    simp only [dj.l0]
    rw [if_pos (by omega), if_pos (by omega), if_pos (by omega), HX.out, lJ K6.i _ _ (by omega) (by omega), qE K6.i _ _ (by omega) (by omega), HS.out, ihh, hd, List.foldl_cons, List.foldl_cons]
theorem pY : ∀ (l : List Nat) (a i : Nat), (l.foldl (fun a e => a &&& e) a).testBit i = (a.testBit i && l.all (fun e => e.testBit i))
  | [], a, i => by simp
  | e :: l, a, i => by
    rw [List.foldl_cons, pY l, Nat.testBit_and, List.all_cons, Bool.and_assoc]
theorem pX (N : Nat) (x : Nat) (t : List Nat) (hx : x < 2 ^ N) : (x :: t).foldl (fun a e => a &&& e) (2 ^ N - 1) = (x :: t).foldl (fun a e => a &&& e) x := by
  apply Nat.eq_of_testBit_eq
  intro i
  rw [pY, pY, List.all_cons, Nat.testBit_two_pow_sub_one]
  cases hb : x.testBit i
  · simp
  · have : i < N := by
      rcases Nat.lt_or_ge i N with h | h
      · exact h
      · rw [Nat.testBit_lt_two_pow (Nat.lt_of_lt_of_le hx (Nat.pow_le_pow_right (by decide) h))] at hb
        cases hb
    rw [decide_eq_true this]
def Ct (N : Nat) (l : List Nat) : Nat := l.foldl (fun a e => a &&& e) (2 ^ N - 1)
def og (M : Nat) (l : List Nat) : Nat := nd M (orL l)
section
variable {w h : Int} {A U : List Int} {w' h' : Nat}
theorem Cf {m : Int} {mv : Bool} {s : Int} (hg : qz w h A U m mv s = true) : (∃ w' h', Fig w h A U w' h') ∧ ∃ n : Nat, m = n ∧ n ≤ if mv then 2 else 4 := by
  unfold qz at hg
  simp only [Bool.and_eq_true] at hg
  obtain ⟨h1, _, h3, _, _⟩ := hg
  refine ⟨zn h1, m.toNat, ?_, ?_⟩
  · rw [kA] at h3; omega
  · rw [kA] at h3
    cases mv with
    | false => simp at h3 ⊢; omega
    | true => simp at h3 ⊢; omega
theorem rk (F : Fig w h A U w' h') (n : Nat) (mv : Bool) (hn : n ≤ if mv then 2 else 4) (s : Int) (hg : qz w h A U n mv s = true) (k : Nat) (hk : 4000000 < k) (sols : List Nat) (hs : sols = n9 w' h' (mkM w' h' A U) n mv s true) :
    (150 < sols.length → dH.f k w h A U n mv s = some ([], false)) ∧ (sols.length ≤ 150 → dH.f k w h A U n mv s = some (gm k (sols.map (jJ w' h')), true)) := by
  have e1 := Ag F n mv hn s true k (by omega)
  have hlt := rl F n mv s true
  rw [← hs] at e1 hlt
  have o1 : (ofN sols).length = sols.length := by unfold ofN; rw [List.length_map]
  unfold dH.f
  rw [nq w h A U n mv s k (by omega), Option.bind_some, if_pos hg, e1, Option.bind_some, o1]
  constructor
  · intro h1
    rw [if_pos (by omega)]
  · intro h1
    rw [if_neg (by omega), F.ew, F.eh, u1 w' h' F.w4 F.h4 k (by omega) sols hlt (by omega)]
    rfl
theorem zC (F : Fig w h A U w' h') (n : Nat) (mv : Bool) (hn : n ≤ if mv then 2 else 4) (s : Int) (hg : qz w h A U n mv s = true) (k : Nat) (hk : 4000000 < k) (sols : List Nat) (hs : sols = n9 w' h' (mkM w' h' A U) n mv s true) :
    eZ.f k w h A U n mv s = some (ofN sols, decide ((sols.length : Int) ≤ 150)) := by
  have e1 := yD F n mv hn s true k hk
  rw [← hs] at e1
  have o1 : (ofN sols).length = sols.length := by unfold ofN; rw [List.length_map]
  have := F.lA; have := F.lU
  unfold eZ.f
  rw [pz w h A U n mv s (by omega) (by omega) k (by omega), Option.bind_some, if_pos hg]
  unfold gj.f
  rw [e1, Option.bind_some, o1, Option.bind_some]
theorem Ao (F : Fig w h A U w' h') (n : Nat) (mv : Bool) (hn : n ≤ if mv then 2 else 4) (s : Int) (hg : qz w h A U n mv s = true) (k : Nat) (hk : 4000000 < k) (sols : List Nat) (hs : sols = n9 w' h' (mkM w' h' A U) n mv s true) :
    (150 < sols.length ∨ sols = [] → cm.f k w h A U n mv s = some (0, 0, false)) ∧ (sols.length ≤ 150 → sols ≠ [] → cm.f k w h A U n mv s = some (((Ct (NE w' h') sols : Nat) : Int), ((og (mkM w' h' A U) sols : Nat) : Int), true)) := by
  obtain ⟨e1, e2⟩ := rk F n mv hn s hg k hk sols hs
  have hlt := rl F n mv s true
  rw [← hs] at hlt
  have hne := F.ne
  unfold cm.f
  constructor
  · intro h1
    by_cases hbig : 150 < sols.length
    · rw [e1 hbig, Option.bind_some]
      rfl
    · have : sols = [] := by rcases h1 with h1 | h1; · exact absurd h1 hbig
                             · exact h1
      subst this
      rw [e2 (by simp), Option.bind_some]
      rfl
  · intro h1 h2
    have hp := qn k (sols.map (jJ w' h'))
    have hl0 : (gm k (sols.map (jJ w' h'))).length = sols.length := by rw [hp.length_eq, List.length_map]
    have hpos : 0 < sols.length := List.length_pos_iff.2 h2
   
    obtain ⟨ms, hms, hmp⟩ : ∃ ms : List Nat, gm k (sols.map (jJ w' h')) = ms.map (jJ w' h') ∧ ms.Perm sols := by
      have key : ∀ (R : List (S28)), (∀ q ∈ R, ∃ m, m < 2 ^ NE w' h' ∧ q = jJ w' h' m) → R = (R.map (fun q => mkM w' h' q.f2 q.f3)).map (jJ w' h') := by
        intro R hR
        rw [List.map_map]
        symm
        rw [List.map_congr_left (g := id)]
        · exact List.map_id R
        · intro q hq
          obtain ⟨m, hm, rfl⟩ := hR q hq
          show jJ w' h' (mkM w' h' (nJ w' h' m) (nI w' h' m)) = _
          rw [rz w' h' m hm]
          rfl
      refine ⟨_, key _ (fun q hq => ?_), ?_⟩
      · obtain ⟨m, hm, rfl⟩ := List.mem_map.1 (hp.mem_iff.1 hq)
        exact ⟨m, hlt m hm, rfl⟩
      · have h3 := hp.map (fun q : S28 => mkM w' h' q.f2 q.f3)
        rw [List.map_map, List.map_congr_left (g := id) (l := sols), List.map_id] at h3
        · exact h3
        · intro m hm
          exact rz w' h' m (hlt m hm)
    rw [e2 h1, Option.bind_some]
    have hmlt : ∀ m ∈ ms, m < 2 ^ NE w' h' := fun m hm => hlt m (hmp.mem_iff.1 hm)
    have hml : ms.length = sols.length := hmp.length_eq
    have hall : (2 : Nat) ^ NE w' h' - 1 < 2 ^ 60 := by
      have : (2 : Nat) ^ NE w' h' ≤ 2 ^ 60 := Nat.pow_le_pow_right (by decide) (by omega)
      have := Nat.two_pow_pos (NE w' h')
      omega
    have e6 : cj.f w h = some ((2 ^ NE w' h' - 1 : Nat) : Int) := by
      rw [F.ew, F.eh]
      exact xh w' (by have := F.w4; omega) h' (by have := F.h4; omega)
    have hz := An w' h' F.w4 F.h4 (gm k (sols.map (jJ w' h'))) ms hms hmlt hne (by omega) ms.length k 0 (2 ^ NE w' h' - 1) (mkM w' h' A U) (by omega) (by omega) hall F.xY
    rw [List.drop_zero, Int.natCast_zero] at hz
    have f1 : ms.foldl (fun a e => a &&& e) (2 ^ NE w' h' - 1) = Ct (NE w' h') sols := hmp.foldl_eq' (fun x _ y _ z => by rw [Nat.and_assoc, Nat.and_assoc, Nat.and_comm x y]) _
    have f2 : ms.foldl nd (mkM w' h' A U) = og (mkM w' h' A U) sols := by
      have : ms.foldl nd (mkM w' h' A U) = sols.foldl nd (mkM w' h' A U) := hmp.foldl_eq' (fun x _ y _ z => by
        apply Nat.eq_of_testBit_eq
        intro i
        rw [eP, eP, eP, eP, Bool.and_assoc, Bool.and_assoc, Bool.and_comm (!x.testBit i)]) _
      rw [this, pD]
      rfl
    rw [f1, f2] at hz
    rw [if_neg (by show ¬ ((gm k (sols.map (jJ w' h'))).length : Int) = 0; omega)]
    unfold bN.f
    rw [Option.bind_some, e6, Option.bind_some, F.set k (by omega), Option.bind_some]
    exact hz
theorem xO (sols : List Nat) (hl : ∀ m ∈ sols, m < 2 ^ 60) (N : Nat) (hN : N ≤ 60) (hlN : ∀ m ∈ sols, m < 2 ^ N) (hne : sols ≠ []) (hlen : sols.length ≤ 1000000) (k : Nat) (hk : 1000001 < k) : dj.f k (ofN sols) = some (((Ct N sols : Nat) : Int), ((orL sols : Nat) : Int)) := by
  cases sols with
  | nil => exact absurd rfl hne
  | cons x t =>
    have hx := hl x List.mem_cons_self
    have hz := xN (x :: t) hl hlen (x :: t).length k 0 x 0 (by omega) (by omega) hx (by decide)
    rw [List.drop_zero, Int.natCast_zero] at hz
    have o1 : (ofN (x :: t)).length = (x :: t).length := by unfold ofN; rw [List.length_map]
    unfold dj.f
    rw [if_pos (by rw [o1, List.length_cons]; omega)]
    have e : rd (ofN (x :: t)) 0 = (x : Int) := rfl
    rw [e, hz]
    unfold Ct orL
    rw [pX N x t (hlN x List.mem_cons_self)]
end
def Small (r : Int × Int × List Int × List Int × Bool) : Prop := r.2.2.1.length ≤ 20 ∧ r.2.2.2.1.length ≤ 20
end Go.Proofs.YtmjlmloomkodpaaGreatDoor.PA
namespace Go.Proofs.YtmjlmloomkodpaaGreatDoor.PA
open Go.RowKit Go.Proofs.ae.aw Go.Proofs.ae.aJ Go.Proofs.ae.aN Go.Proofs.YtmjlmloomkodpaaGreatDoor.Bt
set_option linter.unusedVariables false
set_option linter.unusedSimpArgs false
theorem sU (w h : Int) (A U : List Int) (m : Int) (mv : Bool) (s : Int) (hA : A.length ≤ 1000000) (hU : U.length ≤ 1000000) (k : Nat) (hk : 4000010 < k) :
    ∃ r, dY.f k w h A U m mv s = some r ∧ bH.f k w h A U m mv s = some r ∧ Small r := by
  obtain ⟨k, rfl⟩ : ∃ j, k = j + 1 := ⟨k - 1, by omega⟩
  have small0 : Small (0, 0, [], [], false) := ⟨Nat.zero_le _, Nat.zero_le _⟩
  by_cases hg : qz w h A U m mv s = true
  · obtain ⟨⟨w', h', F⟩, n, rfl, hn⟩ := Cf hg
    have ⟨s1, s2⟩ := Ao F n mv hn s hg (k + 1) (by omega) _ rfl
    have ea := zC F n mv hn s hg (k + 1) (by omega) _ rfl
    have hlt := rl F n mv s true
    generalize n9 w' h' (mkM w' h' A U) n mv s true = sols at s1 s2 ea hlt
    have o1 : (ofN sols).length = sols.length := by unfold ofN; rw [List.length_map]
    have hne := F.ne
    have hMlt := F.lt
    have hM60 := F.xY
    have hmask := F.mask k (by omega)
    generalize mkM w' h' A U = M at s2 hMlt hM60 hmask
    by_cases hbig : 150 < sols.length ∨ sols = []
    · refine ⟨(0, 0, [], [], false), ?_, ?_, small0⟩
      · unfold dY.f
        rw [s1 hbig, Option.bind_some]
        rfl
      · unfold bH.f
        rw [ea, Option.bind_some]
        rcases hbig with hbig | hbig
        · rw [if_neg (by show ¬ decide ((sols.length : Int) ≤ 150) = true; rw [decide_eq_true_iff]; omega)]
          rfl
        · subst hbig
          rfl
    · have hle : sols.length ≤ 150 := by omega
      have hnn : sols ≠ [] := fun h => hbig (.inr h)
      have hpos : 0 < sols.length := List.length_pos_iff.2 hnn
      have hz := s2 hle hnn
      have h62 : (2 : Nat) ^ 60 < 2 ^ 62 := by decide
      have h60 : ∀ m ∈ sols, m < 2 ^ 60 := fun m hm => Nat.lt_of_lt_of_le (hlt m hm) (Nat.pow_le_pow_right (by decide) (by omega))
      have ho : orL sols < 2 ^ 60 := pC sols 0 (by decide) h60
      have ha : og M sols < 2 ^ NE w' h' := k6 hMlt
      have ha62 : og M sols < 2 ^ 62 := Nat.lt_trans (k6 hM60) h62
      have hps := xO sols h60 (NE w' h') (by omega) hlt hnn (by omega) k (by omega)
      have fm := xa w' h' (og M sols) F.w4 F.h4
      have hnd : Go.bits .andNot .i64 (M : Int) ((orL sols : Nat) : Int) = ((og M sols : Nat) : Int) := sT K6.i _ _ (by omega) (by omega)
      refine ⟨((w' : Int), (h' : Int), nJ w' h' (og M sols), nI w' h' (og M sols), true), ?_, ?_, fm.2.2.1, fm.2.2.2⟩
      · unfold dY.f
        rw [hz, Option.bind_some, if_pos rfl]
        unfold bN.f
        rw [Option.bind_some, F.ew, F.eh, qX w' h' F.w4 F.h4 _ ha (k + 1) (by omega)]
        rfl
      · unfold bH.f
        rw [ea, Option.bind_some, if_pos (by show decide ((sols.length : Int) ≤ 150) = true; rw [decide_eq_true_iff]; omega)]
        simp only [bH.j0]
        rw [if_neg (by rw [beq_iff_eq, o1]; omega), hps, Option.bind_some, hmask, Option.bind_some, hnd, F.ew, F.eh, tj w' h' F.w4 F.h4 _ ha62 k (by omega)]
        rfl
  · have hg' := Bool.eq_false_iff.2 hg
    refine ⟨(0, 0, [], [], false), ?_, ?_, small0⟩
    · unfold dY.f cm.f dH.f
      rw [nq w h A U m mv s (k + 1) (by omega), hg', Option.bind_some, if_neg (by decide)]
      rfl
    · unfold bH.f eZ.f
      rw [pz w h A U m mv s hA hU (k + 1) (by omega), hg', Option.bind_some, if_neg (by decide)]
      rfl
end Go.Proofs.YtmjlmloomkodpaaGreatDoor.PA
namespace Go.Proofs.YtmjlmloomkodpaaGreatDoor.PA
open Go.RowKit Go.Proofs.ae.aw Go.Proofs.ae.aJ Go.Proofs.ae.aN
set_option linter.unusedVariables false
set_option linter.unusedSimpArgs false
def room (n : Nat) : Nat := if n % 6 = 5 then 0 else if n % 3 = 0 then 1 else n
theorem tc (n m : Nat) : Int.tmod (n : Int) (m : Int) = ((n % m : Nat) : Int) := rfl
theorem oS (n : Nat) : cq.f (n : Int) = some ((room n : Nat) : Int) := by
  unfold cq.f room
  have e6 : Int.tmod (n : Int) 6 = ((n % 6 : Nat) : Int) := tc n 6
  have e3 : Int.tmod (n : Int) 3 = ((n % 3 : Nat) : Int) := tc n 3
  rw [e6, e3]
  by_cases h1 : n % 6 = 5
  · rw [if_pos (by omega), if_pos h1]; rfl
  · rw [if_neg (by omega), if_neg h1]
    by_cases h2 : n % 3 = 0
    · rw [if_pos (by omega), if_pos h2]; rfl
    · rw [if_neg (by omega), if_neg h2]
theorem room_le (n : Nat) : room n ≤ n + 1 := by
  unfold room
  split
  · omega
  · split <;> omega
theorem Dh (n m : Nat) (hn : n ≤ 1000000) (hm : m ≤ 1000001) : wrap64 ((n : Int) + (m : Int)) = ((n + m : Nat) : Int) := by rw [iV (by omega) (by omega)]; omega
theorem mM (n : Nat) (hn : n ≤ 100000000) : wrap64 ((n : Int) + 1) = ((n + 1 : Nat) : Int) := by rw [iV (by omega) (by omega)]; omega
theorem pt {α : Type} (xs ys : List α) (y v : α) : (xs ++ y :: ys).set xs.length v = (xs ++ [v]) ++ ys := by
  rw [List.set_append_right _ _ (Nat.le_refl _), Nat.sub_self, List.set_cons_zero, List.append_assoc]
  rfl
def sp (n : Nat) : List Int := List.replicate n (-7000000000000000101)
theorem po (l : List Int) (i : Nat) (h : i < l.length) : l.take (i + 1) = l.take i ++ [rd l (i : Int)] := by
  rw [List.take_succ_eq_append_getElem h]
  simp [rd, h]
theorem fl1 (l : List Int) (r : Nat) (hl : l.length ≤ 1000000) (hr : r ≤ 1000001) : ∀ (d k i : Nat), i + d = r → d < k →
    bD.l1 k l ((l ++ sp i) ++ List.replicate d 0) ((l.length + i : Nat) : Int) = some (l ++ sp r) := by
  intro d
  induction d with
  | zero =>
    intro k i hi hk
    obtain ⟨k, rfl⟩ : ∃ m, k = m + 1 := ⟨k - 1, by omega⟩
    have hi : i = r := by omega
    subst hi
    have hlen : ((l ++ sp i) ++ List.replicate 0 (0 : Int)).length = l.length + i := by simp [sp]
    simp only [bD.l1]
    rw [hlen, if_neg (by omega), if_pos (by omega), if_pos (by omega)]
    simp
  | succ d ih =>
    intro k i hi hk
    obtain ⟨k, rfl⟩ : ∃ m, k = m + 1 := ⟨k - 1, by omega⟩
    have hlen : ((l ++ sp i) ++ List.replicate (d + 1) (0 : Int)).length = l.length + i + (d + 1) := by simp [sp]; omega
    have hxl : (l ++ sp i).length = l.length + i := by simp [sp]
    have ihh := ih k (i + 1) (by omega) (by omega)
    have hset : ((l ++ sp i) ++ List.replicate (d + 1) (0 : Int)).set (l.length + i) (-7000000000000000101) = (l ++ sp (i + 1)) ++ List.replicate d 0 := by
      rw [List.replicate_succ, ← hxl, pt]
      congr 1
      unfold sp
      rw [List.replicate_succ', List.append_assoc]
    simp only [bD.l1]
    rw [hlen, if_pos (by omega), if_pos (by omega), Int.toNat_natCast, hset, mM _ (by omega)]
    exact ihh
theorem fl0 (l : List Int) (r : Nat) (hl : l.length ≤ 1000000) (hr : r ≤ 1000001) : ∀ (d k i : Nat), i + d = l.length → d + r + 1 < k →
    bD.l0 k l (l.take i ++ List.replicate (d + r) 0) (i : Int) = some (l ++ sp r) := by
  intro d
  induction d with
  | zero =>
    intro k i hi hk
    obtain ⟨k, rfl⟩ : ∃ m, k = m + 1 := ⟨k - 1, by omega⟩
    have hi : i = l.length := by omega
    simp only [bD.l0]
    rw [if_neg (by omega)]
    have := fl1 l r hl hr r k 0 (by omega) (by omega)
    simp only [sp, List.replicate_zero, List.append_nil, Nat.add_zero] at this
    rw [hi, List.take_length, Nat.zero_add]
    exact this
  | succ d ih =>
    intro k i hi hk
    obtain ⟨k, rfl⟩ : ∃ m, k = m + 1 := ⟨k - 1, by omega⟩
    have hti : (l.take i).length = i := by rw [List.length_take]; omega
    have hlen : (l.take i ++ List.replicate (d + 1 + r) (0 : Int)).length = l.length + r := by rw [List.length_append, hti, List.length_replicate]; omega
    have ihh := ih k (i + 1) (by omega) (by omega)
    have hset : (l.take i ++ List.replicate (d + 1 + r) (0 : Int)).set i (rd l (i : Int)) = l.take (i + 1) ++ List.replicate (d + r) 0 := by
      rw [show d + 1 + r = (d + r) + 1 by omega, List.replicate_succ]
      have := pt (l.take i) (List.replicate (d + r) (0 : Int)) 0 (rd l (i : Int))
      rw [hti] at this
      rw [this, po l i (by omega)]
    simp only [bD.l0]
    rw [hlen, if_pos (by omega), if_pos (by omega), if_pos (by omega), Int.toNat_natCast, hset, mM _ (by omega)]
    exact ihh
theorem qL (l : List Int) (hl : l.length ≤ 1000000) (k : Nat) (hk : 3000010 < k) : bD.f k l = some (l ++ sp (room l.length)) := by
  obtain ⟨k, rfl⟩ : ∃ m, k = m + 1 := ⟨k - 1, by omega⟩
  have hr := room_le l.length
  unfold bD.f
  simp only [bD.j0]
  rw [if_neg (by decide), oS, Option.bind_some, Dh _ _ hl (by omega), if_pos (by omega), Int.toNat_natCast, if_pos (by omega)]
  have := fl0 l (room l.length) hl (by omega) l.length k 0 (by omega) (by omega)
  rw [List.take_zero, List.nil_append, Int.natCast_zero] at this
  exact this
theorem sl1 (l : List Int) (r : Nat) (hl : l.length ≤ 1000000) (hr : r ≤ 1000001) : ∀ (d k i : Nat), i + d = r → d < k →
    br.l1 k l ((l ++ sp i) ++ List.replicate d 0) ((l.length + i : Nat) : Int) = some l := by
  intro d
  induction d with
  | zero =>
    intro k i hi hk
    obtain ⟨k, rfl⟩ : ∃ m, k = m + 1 := ⟨k - 1, by omega⟩
    have hi : i = r := by omega
    subst hi
    have hlen : ((l ++ sp i) ++ List.replicate 0 (0 : Int)).length = l.length + i := by simp [sp]
    simp only [br.l1]
    rw [hlen, if_neg (by omega), if_pos (by omega), if_pos (by omega), Int.toNat_natCast, List.append_assoc, List.take_left]
  | succ d ih =>
    intro k i hi hk
    obtain ⟨k, rfl⟩ : ∃ m, k = m + 1 := ⟨k - 1, by omega⟩
    have hlen : ((l ++ sp i) ++ List.replicate (d + 1) (0 : Int)).length = l.length + i + (d + 1) := by simp [sp]; omega
    have hxl : (l ++ sp i).length = l.length + i := by simp [sp]
    have ihh := ih k (i + 1) (by omega) (by omega)
    have hset : ((l ++ sp i) ++ List.replicate (d + 1) (0 : Int)).set (l.length + i) (-7000000000000000101) = (l ++ sp (i + 1)) ++ List.replicate d 0 := by
      rw [List.replicate_succ, ← hxl, pt]
      congr 1
      unfold sp
      rw [List.replicate_succ', List.append_assoc]
    simp only [br.l1]
    rw [hlen, if_pos (by omega), if_pos (by omega), Int.toNat_natCast, hset, mM _ (by omega)]
    exact ihh
theorem sl0 (l : List Int) (r : Nat) (hl : l.length ≤ 1000000) (hr : r ≤ 1000001) : ∀ (d k i : Nat), i + d = l.length → d + r + 1 < k →
    br.l0 k l (l.take i ++ List.replicate (d + r) 0) (i : Int) = some l := by
  intro d
  induction d with
  | zero =>
    intro k i hi hk
    obtain ⟨k, rfl⟩ : ∃ m, k = m + 1 := ⟨k - 1, by omega⟩
    have hi : i = l.length := by omega
    simp only [br.l0]
    rw [if_neg (by omega)]
    have := sl1 l r hl hr r k 0 (by omega) (by omega)
    simp only [sp, List.replicate_zero, List.append_nil, Nat.add_zero] at this
    rw [hi, List.take_length, Nat.zero_add]
    exact this
  | succ d ih =>
    intro k i hi hk
    obtain ⟨k, rfl⟩ : ∃ m, k = m + 1 := ⟨k - 1, by omega⟩
    have hti : (l.take i).length = i := by rw [List.length_take]; omega
    have hlen : (l.take i ++ List.replicate (d + 1 + r) (0 : Int)).length = l.length + r := by rw [List.length_append, hti, List.length_replicate]; omega
    have ihh := ih k (i + 1) (by omega) (by omega)
    have hset : (l.take i ++ List.replicate (d + 1 + r) (0 : Int)).set i (rd l (i : Int)) = l.take (i + 1) ++ List.replicate (d + r) 0 := by
      rw [show d + 1 + r = (d + r) + 1 by omega, List.replicate_succ]
      have := pt (l.take i) (List.replicate (d + r) (0 : Int)) 0 (rd l (i : Int))
      rw [hti] at this
      rw [this, po l i (by omega)]
    simp only [br.l0]
    rw [hlen, if_pos (by omega), if_pos (by omega), if_pos (by omega), Int.toNat_natCast, hset, mM _ (by omega)]
    exact ihh
theorem qK (l : List Int) (hl : l.length ≤ 1000000) (bare : Bool) (k : Nat) (hk : 3000010 < k) : br.f k l bare = some l := by
  obtain ⟨k, rfl⟩ : ∃ m, k = m + 1 := ⟨k - 1, by omega⟩
  have hr := room_le l.length
  have main : br.j0 (k + 1) l false = some l := by
    simp only [br.j0]
    rw [if_neg (by decide), oS, Option.bind_some, Dh _ _ hl (by omega), if_pos (by omega), Int.toNat_natCast, if_pos (by omega)]
    have := sl0 l (room l.length) hl (by omega) l.length k 0 (by omega) (by omega)
    rw [List.take_zero, List.nil_append, Int.natCast_zero] at this
    exact this
  unfold br.f
  cases bare with
  | false => rw [if_neg (by decide)]; exact main
  | true =>
    rw [if_pos rfl]
    cases l with
    | nil => rfl
    | cons a t =>
      have e : (((a :: t).length : Int) == 0) = false := by rw [beq_eq_false_iff_ne, List.length_cons]; omega
      rw [e]
      exact main
theorem ua (l : List Int) (hl : l.length ≤ 2000001) : ∀ (d k i : Nat), i + d = l.length → d < k → bP.l0 k l l (i : Int) = some true := by
  intro d
  induction d with
  | zero =>
    intro k i hi hk
    obtain ⟨k, rfl⟩ : ∃ m, k = m + 1 := ⟨k - 1, by omega⟩
    simp only [bP.l0]
    rw [if_neg (by omega)]
  | succ d ih =>
    intro k i hi hk
    obtain ⟨k, rfl⟩ : ∃ m, k = m + 1 := ⟨k - 1, by omega⟩
    simp only [bP.l0]
    rw [if_pos (by omega), if_pos (by omega), if_pos (by omega), if_pos trivial, mM _ (by omega)]
    exact ih k (i + 1) (by omega) (by omega)
theorem jY (l : List Int) (hl : l.length ≤ 2000001) (k : Nat) (hk : 2000010 < k) : bP.f k l l = some true := by
  unfold bP.f
  rw [if_pos rfl]
  exact ua l hl l.length k 0 (by omega) (by omega)
theorem qB (a b : Int) (l2 l3 : List Int) (h2 : l2.length ≤ 1000000) (h3 : l3.length ≤ 1000000) (k : Nat) (hk : 2000010 < k) : eK.f k a b l2 l3 a b l2 l3 = some true := by
  unfold eK.f
  rw [if_pos rfl, if_pos rfl, jY l2 (by omega) k hk, Option.bind_some, if_pos rfl, jY l3 (by omega) k hk, Option.bind_some, if_pos rfl]
def marks (v n : Nat) : List Int := (List.range n).map fun j => ((v + j : Nat) : Int)
theorem kb (v n : Nat) : (marks v n).length = n := by unfold marks; rw [List.length_map, List.length_range]
theorem uK (v n : Nat) : marks v (n + 1) = marks v n ++ [((v + n : Nat) : Int)] := by
  unfold marks
  rw [List.range_succ, List.map_append]
  rfl
theorem AK (l : List Int) (v : Nat) (hl : l.length ≤ 1000000) (hv : v ≤ 10000000) : ∀ (d k i : Nat), i + d = l.length → d < k →
    ch.l0 k (marks v i ++ l.drop i) ((v + i : Nat) : Int) (i : Int) = some (((v + l.length : Nat) : Int), marks v l.length) := by
  intro d
  induction d with
  | zero =>
    intro k i hi hk
    obtain ⟨k, rfl⟩ : ∃ m, k = m + 1 := ⟨k - 1, by omega⟩
    have hi : i = l.length := by omega
    have hlen : (marks v i ++ l.drop i).length = l.length := by rw [List.length_append, kb, List.length_drop]; omega
    simp only [ch.l0]
    rw [hlen, if_neg (by omega), hi, List.drop_length, List.append_nil]
  | succ d ih =>
    intro k i hi hk
    obtain ⟨k, rfl⟩ : ∃ m, k = m + 1 := ⟨k - 1, by omega⟩
    have hlen : (marks v i ++ l.drop i).length = l.length := by rw [List.length_append, kb, List.length_drop]; omega
    have hset : (marks v i ++ l.drop i).set i ((v + i : Nat) : Int) = marks v (i + 1) ++ l.drop (i + 1) := by
      rw [gq l i (by omega)]
      have := pt (marks v i) (l.drop (i + 1)) (rd l (i : Int)) ((v + i : Nat) : Int)
      rw [kb] at this
      rw [this, uK]
    have ihh := ih k (i + 1) (by omega) (by omega)
    simp only [ch.l0]
    rw [hlen, if_pos (by omega), if_pos (by omega), Int.toNat_natCast, hset, mM _ (by omega), mM _ (by omega)]
    exact ihh
theorem vB (l : List Int) (v : Nat) (hl : l.length ≤ 1000000) (hv : v ≤ 10000000) (k : Nat) (hk : 1000010 < k) : ch.f k l (v : Int) = some (((v + l.length : Nat) : Int), marks v l.length) := by
  unfold ch.f
  exact AK l v hl hv l.length k 0 (by omega) (by omega)
theorem BL (v n : Nat) (hn : n ≤ 1000000) (hv : v ≤ 10000000) : ∀ (d k i : Nat), i + d = n → d < k →
    cf.l0 k (marks v n) ((v + i : Nat) : Int) (i : Int) = some ((v + n : Nat) : Int) := by
  intro d
  induction d with
  | zero =>
    intro k i hi hk
    obtain ⟨k, rfl⟩ : ∃ m, k = m + 1 := ⟨k - 1, by omega⟩
    simp only [cf.l0]
    rw [kb, if_neg (by omega), show i = n by omega]
  | succ d ih =>
    intro k i hi hk
    obtain ⟨k, rfl⟩ : ∃ m, k = m + 1 := ⟨k - 1, by omega⟩
    have hrd : rd (marks v n) (i : Int) = ((v + i : Nat) : Int) := by
      unfold rd marks
      rw [Int.toNat_natCast, List.getD_eq_getElem?_getD, List.getElem?_map, List.getElem?_range (by omega)]
      rfl
    have ihh := ih k (i + 1) (by omega) (by omega)
    simp only [cf.l0]
    rw [kb, if_pos (by omega), if_pos (by omega), hrd, if_pos rfl, mM _ (by omega), mM _ (by omega)]
    exact ihh
theorem wq (v n : Nat) (hn : n ≤ 1000000) (hv : v ≤ 10000000) (k : Nat) (hk : 1000010 < k) : cf.f k (marks v n) (v : Int) = some ((v + n : Nat) : Int) := by
  unfold cf.f
  exact BL v n hn hv n k 0 (by omega) (by omega)
theorem mi (a b : Int) (l2 l3 : List Int) (h2 : l2.length ≤ 1000000) (h3 : l3.length ≤ 1000000) (k : Nat) (hk : 1000010 < k) : dJ.f k a b l2 l3 101 = some (((101 + l2.length + l3.length : Nat) : Int), marks 101 l2.length, marks (101 + l2.length) l3.length) := by
  unfold dJ.f
  rw [show (101 : Int) = ((101 : Nat) : Int) from rfl, vB l2 101 h2 (by omega) k hk, Option.bind_some]
  show (ch.f k l3 ((101 + l2.length : Nat) : Int)).bind _ = _
  rw [vB l3 (101 + l2.length) h3 (by omega) k hk]
  rfl
theorem qw (a b : Int) (l2 l3 : List Int) (m : Int) (mv : Bool) (s : Int) (h2 : l2.length ≤ 1000000) (h3 : l3.length ≤ 1000000) (k : Nat) (hk : 1000010 < k) : eY.f k a b l2 l3 m mv s 101 = some (((101 + l2.length + l3.length : Nat) : Int), marks 101 l2.length, marks (101 + l2.length) l3.length) := by
  unfold eY.f
  rw [mi a b l2 l3 h2 h3 k hk]
  rfl
theorem qx (a b : Int) (n2 n3 : Nat) (h2 : n2 ≤ 1000000) (h3 : n3 ≤ 1000000) (k : Nat) (hk : 1000010 < k) : eE.f k a b (marks 101 n2) (marks (101 + n2) n3) 101 = some ((101 + n2 + n3 : Nat) : Int) := by
  unfold eE.f
  rw [show (101 : Int) = ((101 : Nat) : Int) from rfl, wq 101 n2 h2 (by omega) k hk, Option.bind_some, if_neg (by omega), wq (101 + n2) n3 h3 (by omega) k hk, Option.bind_some, if_neg (by omega)]
theorem ri (a b : Int) (l2 l3 : List Int) (m : Int) (mv : Bool) (s : Int) (h2 : l2.length ≤ 1000000) (h3 : l3.length ≤ 1000000) (k : Nat) (hk : 3000010 < k) : ez.f k a b l2 l3 m mv s = some (a, b, l2 ++ sp (room l2.length), l3 ++ sp (room l3.length), m, mv, s) := by
  unfold ez.f fx.f
  rw [qL l2 h2 k hk, Option.bind_some, qL l3 h3 k hk, Option.bind_some]
  rfl
theorem tb (a b : Int) (l2 l3 : List Int) (m : Int) (mv : Bool) (s : Int) (bare : Bool) (h2 : l2.length ≤ 1000000) (h3 : l3.length ≤ 1000000) (k : Nat) (hk : 3000010 < k) : fU.f k a b l2 l3 m mv s bare = some (a, b, l2, l3, m, mv, s) := by
  unfold fU.f fV.f
  rw [qK l2 h2 bare k hk, Option.bind_some, qK l3 h3 bare k hk, Option.bind_some]
  rfl
theorem tq (l : List Int) (hl : l.length ≤ 1000000) : wrap64 ((l.length : Int) + ((room l.length : Nat) : Int)) = ((l ++ sp (room l.length)).length : Int) := by
  have := room_le l.length
  rw [Dh _ _ hl (by omega), List.length_append]
  unfold sp
  rw [List.length_replicate]
theorem tf (a b : Int) (l2 l3 : List Int) (m : Int) (mv : Bool) (s : Int) (h2 : l2.length ≤ 9223372036854775807) (h3 : l3.length ≤ 9223372036854775807) :
    ∃ left, eJ.f a b l2 l3 m mv s 1000000 = some left ∧ (left < 0 ∨ (0 ≤ left ∧ l2.length ≤ 1000000 ∧ l3.length ≤ 1000000)) := by
  unfold eJ.f fj.f dM.f
  rw [iV (n := 1000000 - (l2.length : Int)) (by omega) (by omega)]
  by_cases c1 : (1000000 : Int) - (l2.length : Int) < 0
  · rw [if_pos c1, Option.bind_some, if_pos (by omega), Option.bind_some, if_pos (by omega)]
    exact ⟨_, rfl, .inl (by omega)⟩
  · rw [if_neg c1, Option.bind_some, if_neg c1, iV (n := 1000000 - (l2.length : Int) - (l3.length : Int)) (by omega) (by omega)]
    by_cases c2 : (1000000 : Int) - (l2.length : Int) - (l3.length : Int) < 0
    · rw [if_pos c2, Option.bind_some, if_pos (by omega), Option.bind_some, if_pos (by omega)]
      exact ⟨_, rfl, .inl (by omega)⟩
    · rw [if_neg c2, Option.bind_some, if_neg c2, Option.bind_some, if_neg c2]
      exact ⟨_, rfl, .inr ⟨by omega, by omega, by omega⟩⟩
end Go.Proofs.YtmjlmloomkodpaaGreatDoor.PA
namespace Go.Proofs.YtmjlmloomkodpaaGreatDoor.fnExactSureTaken
open Go.ChangeShapes Go.WideShapes Go.ChangeAt Go.RowKit
open Go.Proofs.ae.aw Go.Proofs.ae.aJ Go.Proofs.ae.aN
set_option linter.unusedVariables false
theorem own : ownKnob Tryz.prog.godebug = none := by kernel_rfl
theorem laidOut : laidOutB Tryz.prog = true := by kernel_rfl
theorem EI : Tryz.prog.globalNamed "math/bits.deBruijn64tab" = some 0 := by kernel_rfl
theorem zj : (Tryz.prog.globals[0]?).map (·.type) = some 147 := by kernel_rfl
theorem zy : Tryz.prog.cellsOf 147 = 64 := by kernel_rfl
theorem Cn : Tryz.prog.cellsOf 5 = 1 := by kernel_rfl
def yF : List Int := Lib.deBruijn64tab.map (fun n : Nat => (n : Int))
theorem table {W : World} (h : laidMetH Tryz.prog Rows.fnExactSureTakenRow.laid W) : Lib.TabIs Tryz.prog W "math/bits.deBruijn64tab" .u8 yF :=
  Lib.tabIs_of_head (rest := []) EI zj Tryz.underlying147 Tryz.underlying5 Cn zy h
theorem DR {W : World} (h : laidMetH Tryz.prog Rows.fnExactSureTakenRow.laid W) : PA.ej W := by
  have ht := table h
  have hc : ∀ j, j < Lib.deBruijn64tab.length → W.cell? ⟨0, j, none⟩ = some (.int .u8 (Lib.deBruijn64tab.getD j 0)) := fun j hj => by
    have h1 := ht.cell EI j (by unfold yF; rw [List.length_map]; exact hj)
    have h2 : yF.getD j 0 = ((Lib.deBruijn64tab.getD j 0 : Nat) : Int) := by
      unfold yF
      rw [List.getD_eq_getElem?_getD, List.getD_eq_getElem?_getD, List.getElem?_map, List.getElem?_eq_getElem hj]
      rfl
    rw [h2] at h1
    exact h1
  exact ⟨World.block_lt_of_cell? W _ (hc 0 (by decide)), hc⟩
/-- the two rows of numbers of a puzzle -/
def ui (w : World) (v : Value) (l : List Int) : Prop := ∃ A c, v = .slice A l.length c ∧ l.length ≤ c ∧ Kd.C (Kd.int .i64) w A l.length l
theorem tp {H : Type} {enc : TypeId × Value → H} {W : World} {fuel : Nat} {v : Value} {x : DataW H × List MemPlace} (h : DataW.trod enc Tryz.prog W 0 (fun _ => true) true fuel 22 [v] = some x) : ∃ l, ui W v l := by
  rcases open_ints Tryz.underlying22 Tryz.underlying3 (by kernel_rfl) h with ⟨hcs, _⟩ | ⟨ad, n, c, zs, hcs, _, hl, hm, hz, _, hcell, hwz⟩
  · obtain rfl : v = .slice none 0 0 := by simpa using hcs
    exact ⟨[], none, 0, rfl, Nat.le_refl _, Kd.Gm _ _⟩
  · obtain rfl : v = .slice (some ad) n c := by simpa using hcs
    have hz : zs.length = c := by simpa using hz
    obtain ⟨l, hln, hr, hmx, hw, hc⟩ := fR.Ds (w := W) (k := .i64) (a := some ad) (len := n) (cap := c) (zs := zs) (.inr ⟨ad, rfl, hl, hm, hz, hcell, hwz⟩)
    subst hln
    exact ⟨l, some ad, c, rfl, hc, Kd.vo (d := (0 : Int)) (h1 := fun _ => rfl) hr⟩
set_option maxRecDepth 100000 in
theorem Ax {H : Type} {enc : TypeId × Value → H} {W : World} {base : Nat} {v : Value} {d : DataW H} {p : List MemPlace} (hv : Value.okWide Tryz.prog W .any base 26 v) (h : DataW.Trod enc Tryz.prog W 0 (fun _ => true) true 26 v d p) :
    ∃ (a b : Int) (v2 v3 : Value) (m : Int) (mv : Bool) (s : Int) (l2 l3 : List Int), v = .agg #[.int .i64 a, .int .i64 b, v2, v3, .int .i64 m, .bool mv, .int .i64 s] ∧ ui W v2 l2 ∧ ui W v3 l3 := by
  obtain ⟨cs, rfl, hsz⟩ := okWide_struct Tryz.underlying26 hv
  have hC : Tryz.prog.cellsOf 26 = 7 := by kernel_rfl
  have hF : Tryz.prog.cellsOf 24 = 4 := by kernel_rfl
  have hI : Tryz.prog.cellsOf 3 = 1 := by kernel_rfl
  have hB : Tryz.prog.cellsOf 4 = 1 := by kernel_rfl
  have hS : Tryz.prog.cellsOf 22 = 1 := by kernel_rfl
  obtain ⟨l⟩ := cs
  match l, hsz.trans hC with
  | [c0, c1, c2, c3, c4, c5, c6], _ =>
    obtain ⟨fuel, hf⟩ := h
    obtain ⟨xs, n, _, hx, _, hlen, hg⟩ := DataW.trod_struct Tryz.underlying26 hf
    match xs, hlen with
    | [y0, y1, y2, y3], _ =>
      have g0 : DataW.trod enc Tryz.prog W 0 (fun _ => true) true n 24 [c0, c1, c2, c3] = some y0 := by simpa [Value.cells, hF] using hg 0 _ rfl
      have g1 : DataW.trod enc Tryz.prog W 0 (fun _ => true) true n 3 [c4] = some y1 := by simpa [Value.cells, hI] using hg 1 _ rfl
      have g2 : DataW.trod enc Tryz.prog W 0 (fun _ => true) true n 4 [c5] = some y2 := by simpa [Value.cells, hB] using hg 2 _ rfl
      have g3 : DataW.trod enc Tryz.prog W 0 (fun _ => true) true n 3 [c6] = some y3 := by simpa [Value.cells, hI] using hg 3 _ rfl
      obtain ⟨zs, n', _, hx', _, hlen', hg'⟩ := DataW.trod_struct Tryz.underlying24 g0
      match zs, hlen' with
      | [z0, z1, z2, z3], _ =>
        have k0 : DataW.trod enc Tryz.prog W 0 (fun _ => true) true n' 3 [c0] = some z0 := by simpa [hI] using hg' 0 _ rfl
        have k1 : DataW.trod enc Tryz.prog W 0 (fun _ => true) true n' 3 [c1] = some z1 := by simpa [hI] using hg' 1 _ rfl
        have k2 : DataW.trod enc Tryz.prog W 0 (fun _ => true) true n' 22 [c2] = some z2 := by simpa [hS] using hg' 2 _ rfl
        have k3 : DataW.trod enc Tryz.prog W 0 (fun _ => true) true n' 22 [c3] = some z3 := by simpa [hS] using hg' 3 _ rfl
        obtain ⟨a, e0, _, _⟩ := DataW.trod_int Tryz.underlying3 k0
        obtain ⟨b, e1, _, _⟩ := DataW.trod_int Tryz.underlying3 k1
        obtain ⟨m, e4, _, _⟩ := DataW.trod_int Tryz.underlying3 g1
        obtain ⟨mv, e5, _⟩ := DataW.trod_bool Tryz.underlying4 g2
        obtain ⟨s, e6, _, _⟩ := DataW.trod_int Tryz.underlying3 g3
        obtain ⟨l2, h2⟩ := tp k2
        obtain ⟨l3, h3⟩ := tp k3
        simp only [List.cons.injEq, and_true] at e0 e1 e4 e5 e6
        subst e0 e1 e4 e5 e6
        exact ⟨a, b, c2, c3, m, mv, s, l2, l3, rfl, h2, h3⟩
/-- THE WALK AND THE PLAIN LAW, JOINED: for every puzzle and every world that holds the table. -/
theorem whole (W : World) (hT : PA.ej W) (a b : Int) (v2 v3 : Value) (m : Int) (mv : Bool) (s : Int) (l2 l3 : List Int) (h2 : ui W v2 l2) (h3 : ui W v3 l3) :
    Calls Tryz.prog 4 #[.agg #[.int .i64 a, .int .i64 b, v2, v3, .int .i64 m, .bool mv, .int .i64 s]] W fun e w' => e = .returned (.bool true) ∧ Below W.heap.size W w' := by
  obtain ⟨A2, c2, rfl, hc2, hr2⟩ := h2
  obtain ⟨A3, c3, rfl, hc3, hr3⟩ := h3
  obtain ⟨left, hsz, hcase⟩ := PA.tf a b l2 l3 m mv s hr2.2.1 hr3.2.1
  rcases hcase with hlt | ⟨hge, hl2, hl3⟩
  · exact PA.nM.short a b A2 c2 l2 A3 c3 l3 m mv s W hr2 hc2 hr3 hc3 left hsz hlt
  · obtain ⟨⟨r1, r2, r3, r4, r5⟩, hi, hs, hsm⟩ := PA.sU a b l2 l3 m mv s hl2 hl3 5000000 (by omega)
    have hs3 : r3.length ≤ 1000000 := Nat.le_trans hsm.1 (by omega)
    have hs4 : r4.length ≤ 1000000 := Nat.le_trans hsm.2 (by omega)
    have hrm2 := PA.room_le l2.length
    have hrm3 := PA.room_le l3.length
    have q2 : (l2 ++ PA.sp (PA.room l2.length)).length ≤ 2000001 := by rw [List.length_append]; unfold PA.sp; rw [List.length_replicate]; omega
    have q3 : (l3 ++ PA.sp (PA.room l3.length)).length ≤ 2000001 := by rw [List.length_append]; unfold PA.sp; rw [List.length_replicate]; omega
    exact PA.nM.body 5000000 a b A2 c2 l2 A3 c3 l3 m mv s W hT hr2 hc2 hr3 hc3 left hsz hge (PA.sp (PA.room l2.length)) (PA.sp (PA.room l3.length))
      (PA.ri a b l2 l3 m mv s hl2 hl3 5000000 (by omega)) (PA.tb a b l2 l3 m mv s true hl2 hl3 5000000 (by omega)) _ _ (PA.oS l2.length) (PA.tq l2 hl2) (PA.oS l3.length) (PA.tq l3 hl3)
      (PA.jY _ q2 5000000 (by omega)) (PA.jY _ q3 5000000 (by omega)) r1 r2 r3 r4 r5 hs hi (PA.qB r1 r2 r3 r4 hs3 hs4 5000000 (by omega))
      _ _ _ (PA.qw a b l2 l3 m mv s hl2 hl3 5000000 (by omega)) (by omega) _ _ _ (PA.mi r1 r2 r3 r4 hs3 hs4 5000000 (by omega)) (PA.qx r1 r2 r3.length r4.length hs3 hs4 5000000 (by omega)) (by omega)
set_option maxRecDepth 100000 in
theorem zu (H : Type) (enc : TypeId × Value → H) (W : World) (base : Nat) (args : Array Value) (ds gs : List (DataW H)) (before : List MemPlace)
    (hval : ∀ (j : Nat) t v, Tryz.f4.params[j]? = some t → args[j]? = some v → Value.okWide Tryz.prog W .any base t v)
    (hW : DataW.Whole enc Tryz.prog Tryz.f4.params.toList Rows.fnExactSureTakenSpec.vars false W args.toList ds gs before) (hL : laidMetH Tryz.prog Rows.fnExactSureTakenRow.laid W) :
    Calls Tryz.prog 4 args W fun e W' => ∃ v, e = .returned v ∧ Rows.fnExactSureTakenSpec.post enc Tryz.prog Tryz.f4 false true false false W args v W' := by
  have hW' := hW
  obtain ⟨p, q, hA0, hV, rfl, hfz, hnd⟩ := hW
  have hA : DataW.TrodAll enc Tryz.prog W 0 (fun _ => true) true Tryz.f4.params.toList args.toList ds p := hA0
  rw [Tryz.params4] at hA hval
  obtain ⟨v0, vs0, d0, ds0, p0, q0, hargs, rfl, rfl, h0, r0⟩ := trodAll_cons hA
  obtain ⟨rfl, rfl, rfl⟩ := trodAll_nil r0
  obtain rfl : args = #[v0] := by cases args; simp_all
  obtain ⟨rfl, rfl⟩ := trodVars_none hV
  have k0 := h0
  have lt0 : ∀ x ∈ p0, x.block < W.heap.size := by obtain ⟨m, hm⟩ := k0; exact DataW.trod_lt m _ _ _ hm
  obtain ⟨a, b, v2, v3, m, mv, s, l2, l3, rfl, h2, h3⟩ := Ax (hval 0 26 v0 rfl rfl) h0
  clear hA0
  refine (whole W (DR hL) a b v2 v3 m mv s l2 l3 h2 h3).mono fun e W' ⟨he, bel⟩ => ?_
  subst he
  exact ⟨_, rfl, _, _, _, [], _, [], hW', trodAll_mk1 (shut_bool Tryz.underlying4 _), trodAll_cons_mk (Below.trod laidOut (by kernel_rfl) (of_decide_eq_true (by kernel_rfl)) k0 bel lt0) trodAll_mk0, rfl, bel.frame _, fun h => by cases h⟩
/-- A WORLD FOR THE WITNESS: the settled one, the table holding what its initialiser lays. -/
noncomputable def nA (os : Os) : World :=
  { World.holding Tryz.prog os ⟨#[], #[], []⟩ with heap := (World.holding Tryz.prog os ⟨#[], #[], []⟩).heap.modify 0 fun
      | .cells _ t frozen => .cells (yF.map (Value.int .u8)).toArray t frozen
      | o => o }
def Cr : Value := .agg #[.int .i64 0, .int .i64 0, .slice none 0 0, .slice none 0 0, .int .i64 0, .bool false, .int .i64 0]
theorem yW (os : Os) : laidMet Tryz.prog Rows.fnExactSureTakenRow.laid ((nA os).forCall (fun _ _ => 0) ⟨#[], #[Cr], []⟩).memory :=
  laidMet_of_run' 8 (by kernel_rfl) (by kernel_rfl)
theorem reads (os : Os) {H : Type} (enc : TypeId × Value → H) : ∃ places, DataW.whole enc Tryz.prog ((nA os).forCall (fun _ _ => 0) ⟨#[], #[Cr], []⟩).memory Tryz.f4.params.toList Rows.fnExactSureTakenSpec.vars false #[Cr].toList 8 = some ([.agg [.agg [.lit (.int .i64 0), .lit (.int .i64 0), .nil, .nil], .lit (.int .i64 0), .lit (.bool false), .lit (.int .i64 0)]], [], places) :=
  ⟨[], by kernel_rfl⟩
set_option maxRecDepth 100000 in
theorem lifted (os : Os) (started : os.Started) (H : Type) (enc : TypeId × Value → H) (F : Stop.Interp) :
    ReturnsInHanded {} Tryz.checked os 4 .any ((OpenSpec.ofChange Rows.fnExactSureTakenSpec).preRow enc Tryz.prog Tryz.f4 Rows.fnExactSureTakenRow.domain false Rows.fnExactSureTakenRow.laid) (((OpenSpec.ofChange Rows.fnExactSureTakenSpec).at F).post enc Tryz.prog Tryz.f4 false true false false) := by
  obtain ⟨places, hx⟩ := reads os enc
  refine returnsInHanded_of_row (C := Tryz.checked) (s := OpenSpec.ofChange Rows.fnExactSureTakenSpec) own started (by kernel_rfl) Tryz.func4
    (witness_row_at (enc := enc) (C := Tryz.checked) false (nA os) #[Cr] rfl (by kernel_rfl) (by kernel_rfl) (by kernel_rfl)
      (OpenSpec.preRow_of_cond 8 hx (by kernel_rfl) (fun k hk => by cases hk) (by kernel_rfl) (yW os))) ?_
  intro W base args ds gs before hval hW _ _ _ hL _ _
  exact zu H enc W base args ds gs before hval hW hL
theorem said : Rows.FnExactSureTakenSaid :=
  OpenClaim.holds_of_cond 4 Tryz.f4 rfl rfl rfl rfl rfl rfl rfl ⟨rfl, rfl, rfl, rfl, rfl⟩ rfl rfl rfl rfl rfl (by kernel_rfl) Tryz.func4 (by kernel_rfl)
    (of_decide_eq_true (by kernel_rfl)) (by unfold Func.isWrapper; first | (rw [if_pos (by decide +kernel)]; kernel_rfl) | (rw [if_neg (by decide +kernel)]; exact ⟨rfl, rfl⟩))
    (fun os started H enc _ F => by rw [OpenClaim.pre_eq_preRow]; exact lifted os started H enc F)
/-- No parameter wants a stand-in; the program's own looks are on: what the card asks. -/
theorem plain (f : FuncId) (fn : Func) (hf : Tryz.pinned.checked.prog.funcNamed "loop.example/g01233/laws.FnExactSureTaken" = some f) (hfn : Tryz.pinned.checked.prog.funcs[f]? = some fn) :
    true = Tryz.pinned.checked.prog.looks [] ∧ ∀ (j : Nat) t, fn.params[j]? = some t → Tryz.pinned.checked.prog.wantsStandIn t = false := by
  obtain rfl : f = 4 := Option.some.inj ((show Tryz.prog.funcNamed "loop.example/g01233/laws.FnExactSureTaken" = some 4 by kernel_rfl).symm.trans hf) |>.symm
  obtain rfl : fn = Tryz.f4 := (Option.some.inj (Tryz.func4.symm.trans hfn)).symm
  refine ⟨by kernel_rfl, fun j t ht => ?_⟩
  rw [Tryz.params4] at ht
  obtain rfl : t = 26 := by simpa using Array.mem_of_getElem? ht
  exact (show Tryz.prog.wantsStandIn 26 = false by kernel_rfl)
theorem card : Rows.FnExactSureTakenCardSaid :=
  Claim7.holds_tied_plain_at .later [] _ _ _ _ said (fun _ h => by cases h) (by kernel_rfl) (fun _ h => by cases h) fnExactSureTaken_row_tie rfl ⟨rfl, rfl⟩ (by kernel_rfl) rfl plain (by kernel_rfl)
end Go.Proofs.YtmjlmloomkodpaaGreatDoor.fnExactSureTaken
