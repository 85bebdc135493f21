/- Written for this claim by its session's own programs: contracts of the functions that the law reaches, and the plain law over them (part 3 of 6). -/
import Derived.Test.YtmjlmloomkodpaaGreatDoorSureTaken0
import Derived.Test.YtmjlmloomkodpaaGreatDoorSureTaken1
import Derived.Test.YtmjlmloomkodpaaGreatDoorSureTaken2
namespace Go.Proofs.YtmjlmloomkodpaaGreatDoor.PA
open Go.RowKit Go.Proofs.ae.aw Go.Proofs.ae.aJ Go.Proofs.ae.aN
attribute [local go_sem] bo bm bC bB a6 aZ bn bj
set_option linter.unusedVariables false
set_option linter.unusedSimpArgs false
def bK.l0 : Nat → Int → Bool → List (fz) → List Int → List Int → Int → Int → Option (List Int)
 | 0, _, _, _, _, _, _, _ => none
 | k + 1, x2, x4, x11, x12, x23, x24, x25 => if x25 < x24 then (if 0 ≤ x25 then (if x25 < (x23.length : Int) then ((cM.f k x11 (rd x23 x25)).bind fun t261 => (if t261 = x2 then (if x4 = true then ((cC.f k x11 (rd x23 x25)).bind fun t262 => (if t262 = (rd x23 x25) then (if x12.length < 17592186044416 then (bK.l0 k x2 x4 x11 (x12 ++ [rd x23 x25]) x23 x24 (wrap64 (x25 + 1))) else (none)) else (bK.l0 k x2 x4 x11 x12 x23 x24 (wrap64 (x25 + 1))))) else (if x12.length < 17592186044416 then (bK.l0 k x2 x4 x11 (x12 ++ [rd x23 x25]) x23 x24 (wrap64 (x25 + 1))) else (none))) else (bK.l0 k x2 x4 x11 x12 x23 x24 (wrap64 (x25 + 1))))) else (none)) else (none)) else (some x12)
def bK.f (k : Nat) (a0_0 : Int) (a0_1 : Int) (l0_2 : List Int) (l0_3 : List Int) (a1 : Int) (a2 : Int) (a3 : Bool) (a4 : Bool) : Option (List Int) := (bd.f k a0_0 a0_1).bind fun t254 => ((fa.f k a0_0 a0_1 l0_2 l0_3 a1 a3).bind fun t257 => (bK.l0 k a2 a4 t254 ([] : List Int) t257 (t257.length : Int) 0))
set_option maxHeartbeats 8000000 in
set_option maxRecDepth 100000 in
theorem bK.calls (k : Nat) (a0_0 : Int) (a0_1 : Int) (A0_2 : Option Addr) (c0_2 : Nat) (l0_2 : List Int) (A0_3 : Option Addr) (c0_3 : Nat) (l0_3 : List Int) (a1 : Int) (a2 : Int) (a3 : Bool) (a4 : Bool) (r : List Int) (w : World) (ca : Kd.C (Kd.int .i64) w A0_2 l0_2.length l0_2) (bX : l0_2.length ≤ c0_2) (b0 : Kd.C (Kd.int .i64) w A0_3 l0_3.length l0_3) (bW : l0_3.length ≤ c0_3) (h : bK.f k a0_0 a0_1 l0_2 l0_3 a1 a2 a3 a4 = some r) :
  Calls Tryz.prog 103 #[.agg #[.int .i64 a0_0, .int .i64 a0_1, .slice A0_2 l0_2.length c0_2, .slice A0_3 l0_3.length c0_3], .int .i64 a1, .int .i64 a2, .bool a3, .bool a4] w fun e w' => ∃ v0_ : Value, e = .returned (v0_) ∧ Kd.R (Kd.int .i64) 3 w' w.heap.size (fun _ => True) v0_ r ∧ Below w.heap.size w w' := by
 have hu28 := Tryz.underlying28
 have cy := aa.mk ca
 have cD := aa.mk bX
 clear ca bX
 have cF := aa.mk b0
 have cK := aa.mk bW
 clear b0 bW
 have HB := aa.mk (Below.refl w.heap.size w)
 have H : ((bd.f k a0_0 a0_1).bind fun t254 => ((fa.f k a0_0 a0_1 l0_2 l0_3 a1 a3).bind fun t257 => (bK.l0 k a2 a4 t254 ([] : List Int) t257 (t257.length : Int) 0))) = some r := h
 clear h
 replace H := Option.bind_eq_some_iff.mp H
 obtain ⟨t254, A60, H⟩ := H
 replace H : ((fa.f k a0_0 a0_1 l0_2 l0_3 a1 a3).bind fun t257 => (bK.l0 k a2 a4 t254 ([] : List Int) t257 (t257.length : Int) 0)) = some r := H
 have A6 := aa.mk A60
 clear A60
 replace H := Option.bind_eq_some_iff.mp H
 obtain ⟨t257, A70, H⟩ := H
 replace H : (bK.l0 k a2 a4 t254 ([] : List Int) t257 (t257.length : Int) 0) = some r := H
 have A7 := aa.mk A70
 clear A70
 have H' := aa.mk H
 clear H
 go_enter Tryz.func103, Tryz.ntmps103
 go_wp2_with (first | ((with_reducible refine aV (N := 5) rfl ?_); refine aM ?hg (N := 5) ?hd (cs := #[.int .i64 a0_0, .int .i64 a0_1, .slice A0_2 l0_2.length c0_2, .slice A0_3 l0_3.length c0_3]) (t := 28) ?hr ?_; (case hd => rfl); (case hg => rfl); (case hr => first | (go_simp; done) | (go_simp; rfl)); intro gH hg w8 hbox hb; have n0_ := aa.mk (ar (by repeat (first | (with_reducible first | exact HB.out | apply ag | apply af | apply ah) | exact HB.out)) hb); have n1_ := aa.mk (hbox); have n2_ := aa.mk ((by rw [hg]; exact (aq (by repeat (first | (with_reducible first | exact HB.out | apply ag | apply af | apply ah) | exact HB.out))) : w.heap.size ≤ gH)); have n3_ := aa.mk ((by rw [hg]; exact (aq (by repeat (first | (with_reducible first | exact HB.out | apply ag | apply af | apply ah) | exact HB.out))) : w.heap.size ≤ gH)); clear HB; have HB := n0_; have di := n1_; have GW253 := n2_; have ia := n3_; clear n0_ n1_ n2_ n3_; clear hb hbox hg; have gS : w8.cell? ⟨gH, 0, none⟩ = some (.int .i64 a0_0) := (ai di.out 0).trans rfl; have gR : w8.cell? ⟨gH, 1, none⟩ = some (.int .i64 a0_1) := (ai di.out 1).trans rfl; have iD : w8.cell? ⟨gH, 2, none⟩ = some (.slice A0_2 l0_2.length c0_2) := (ai di.out 2).trans rfl; have iC : w8.cell? ⟨gH, 3, none⟩ = some (.slice A0_3 l0_3.length c0_3) := (ai di.out 3).trans rfl; have gQ := aj di.out 0; have gP := aj di.out 1; have iB := aj di.out 2; have iA := aj di.out 3) | ((with_reducible refine az (f := 135) rfl ?_); refine bI (some 19) rfl rfl Tryz.func135 (by kernel_rfl) rfl #[.int .i64 a0_0, .int .i64 a0_1] rfl (by (try simp only [List.map_toArray, List.map_cons, List.map_nil]); first | done | rfl | (simp only [List.length_drop, List.length_take]; rfl)) ?_; (with_reducible refine (bd.calls k a0_0 a0_1 t254 _ A6.out).mono ?_); rintro e w10 ⟨v255, rfl, ho0, hb⟩; refine ⟨_, rfl, ?_⟩; have n0_ := aa.mk (Kd.cW ho0 (aq (by repeat (first | (with_reducible first | exact HB.out | apply ag | apply af | apply ah | refine ak ?_ ia.out) | exact HB.out)))); have n1_ := aa.mk (aD (g := gH) (o := .cells #[.int .i64 a0_0, .int .i64 a0_1, .slice A0_2 l0_2.length c0_2, .slice A0_3 l0_3.length c0_3] 28 (0, 0)) (by (with_reducible repeat (first | refine al ?_ _ | refine ao ?_ | refine an ?_ _)); exact di.out) hb); have n2_ := aa.mk (ar (by repeat (first | (with_reducible first | exact HB.out | apply ag | apply af | apply ah | refine ak ?_ ia.out) | exact HB.out)) hb); clear di; clear HB; have xp := n0_; have di := n1_; have HB := n2_; clear n0_ n1_ n2_; (try clear hb); (try clear hb2); (try clear hk); (try clear hi); (try clear ho0); have pa : w10.cell? ⟨gH, 0, none⟩ = some (.int .i64 a0_0) := (ai di.out 0).trans rfl; have o9 : w10.cell? ⟨gH, 1, none⟩ = some (.int .i64 a0_1) := (ai di.out 1).trans rfl; have o8 : w10.cell? ⟨gH, 2, none⟩ = some (.slice A0_2 l0_2.length c0_2) := (ai di.out 2).trans rfl; have o7 : w10.cell? ⟨gH, 3, none⟩ = some (.slice A0_3 l0_3.length c0_3) := (ai di.out 3).trans rfl; have o4 := aj di.out 0; have o3 := aj di.out 1; have o2 := aj di.out 2; have oZ := aj di.out 3) | ((with_reducible refine az (f := 136) rfl ?_); refine bI (some 23) rfl rfl Tryz.func136 (by kernel_rfl) rfl #[.agg #[.int .i64 a0_0, .int .i64 a0_1, .slice A0_2 l0_2.length c0_2, .slice A0_3 l0_3.length c0_3], .int .i64 a1, .bool a3] rfl (by (try simp only [List.map_toArray, List.map_cons, List.map_nil]); first | done | rfl | (simp only [List.length_drop, List.length_take]; rfl)) ?_; (with_reducible refine (fa.calls k a0_0 a0_1 _ _ l0_2 _ _ l0_3 a1 a3 t257 _ ?side1 ?side2 ?side3 ?side4 A7.out).mono ?_); (case side1 => repeat (first | exact (Kd.ax cy.out HB.out) | (with_reducible refine Kd.aX ?_ _) | (with_reducible refine Kd.aW ?_ _) | (with_reducible refine Kd.bh ?_))); (case side2 => exact cD.out); (case side3 => repeat (first | exact (Kd.ax cF.out HB.out) | (with_reducible refine Kd.aX ?_ _) | (with_reducible refine Kd.aW ?_ _) | (with_reducible refine Kd.bh ?_))); (case side4 => exact cK.out); rintro e w12 ⟨v258, rfl, ho0, hb⟩; refine ⟨_, rfl, ?_⟩; have n0_ := aa.mk (Kd.cx (by (with_reducible repeat (first | apply Kd.aH | apply Kd.aG | apply Kd.aQ)); exact xp.out) hb); have n1_ := aa.mk (Kd.cW ho0 (aq (by repeat (first | (with_reducible first | exact HB.out | apply ag | apply af | apply ah | refine ak ?_ ia.out) | exact HB.out)))); have n2_ := aa.mk (aD (g := gH) (o := .cells #[.int .i64 a0_0, .int .i64 a0_1, .slice A0_2 l0_2.length c0_2, .slice A0_3 l0_3.length c0_3] 28 (0, 0)) (by (with_reducible repeat (first | refine al ?_ _ | refine ao ?_ | refine an ?_ _)); exact di.out) hb); have n3_ := aa.mk (ar (by repeat (first | (with_reducible first | exact HB.out | apply ag | apply af | apply ah | refine ak ?_ ia.out) | exact HB.out)) hb); clear xp; clear di; clear HB; have xp := n0_; have C3 := n1_; have di := n2_; have HB := n3_; clear n0_ n1_ n2_ n3_; (try clear hb); (try clear hb2); (try clear hk); (try clear hi); (try clear ho0); obtain ⟨jI, jg, DT⟩ := Kd.bE C3.out; subst DT))
 go_loopg [12, 25] k (fun kq v12 v25 w' => ∃ (x12_1 : List Int) (x25_1 : Int), v25 = .int .i64 x25_1 ∧ aa (bK.l0 kq a2 a4 t254 x12_1 t257 (t257.length : Int) x25_1 = some r) ∧ aa (kq ≤ k) ∧ aa (Kd.R oK 170 w' w.heap.size (fun _ => True) v255 t254) ∧ aa (Kd.R (Kd.int .i64) 3 w' w.heap.size (fun k_ => some k_ ≠ ((.slice jI t257.length jg) : Value).ownBlock) v12 x12_1) ∧ aa (Kd.R (Kd.int .i64) 3 w' w.heap.size (fun k_ => some k_ ≠ (v12 : Value).ownBlock) (.slice jI t257.length jg) t257) ∧ aa (w'.heap[gH]? = some (.cells #[.int .i64 a0_0, .int .i64 a0_1, (.slice A0_2 l0_2.length c0_2), (.slice A0_3 l0_3.length c0_3)] 28 (0, 0))) ∧ aa (Below w.heap.size w w'))
 case atStart => exact ⟨(([] : List Int)), (0), (by first | rfl | (simp; done) | (simp [*]; done)), H', ⟨Nat.le_refl _⟩, ⟨by (with_reducible repeat (first | apply Kd.aH | apply Kd.aG | apply Kd.aQ)); exact xp.out⟩, ⟨by first | exact Kd.ir _ _ _ _ _ | exact Kd.mx _ _ _ _ _ | exact Kd.mu _ _ _ _ _ | exact Kd.mw _ _ _ _ _ | exact Kd.km _ _ _ _ _⟩, ⟨by (with_reducible repeat (first | apply Kd.aH | apply Kd.aG | apply Kd.aQ)); exact Kd.bV C3.out (fun _ hk => (by simp [Value.ownBlock]))⟩, ⟨by (with_reducible repeat (first | refine al ?_ _ | refine ao ?_ | refine an ?_ _)); exact di.out⟩, ⟨by repeat (first | (with_reducible first | exact HB.out | apply ag | apply af | apply ah | refine ak ?_ ia.out) | exact HB.out)⟩⟩
 case round =>
  clear H'
  try clear c1
  try clear p2
  try clear c10
  try clear c13
  try clear pa
  try clear o9
  try clear o8
  try clear o7
  try clear gS
  try clear gR
  try clear iD
  try clear iC
  try clear o4
  try clear o3
  try clear o2
  try clear oZ
  try clear gQ
  try clear gP
  try clear iB
  try clear iA
  obtain ⟨x12_1, x25_1, rfl, HA, HK1, du, fi, eC, di, HB⟩ := hrel
  cases gk with
  | zero => exact absurd HA.out (by simp [bK.l0])
  | succ k1 =>
   have H := HA.out
   clear HA
   simp only [bK.l0] at H
   by_cases c14 : x25_1 < (t257.length : Int)
   ·rw [if_pos c14] at H
    have c14b0 : decide (x25_1 < (t257.length : Int)) = true := decide_eq_true c14
    clear c14
    by_cases c15 : 0 ≤ x25_1
    ·rw [if_pos c15] at H
     have c15b0 : decide (0 ≤ x25_1) = true := decide_eq_true c15
     clear c15
     by_cases c16 : x25_1 < (t257.length : Int)
     ·rw [if_pos c16] at H
      have c16b0 : decide (x25_1 < (t257.length : Int)) = true := decide_eq_true c16
      clear c16
      replace H := Option.bind_eq_some_iff.mp H
      obtain ⟨t261, A170, H⟩ := H
      replace H : (if t261 = a2 then (if a4 = true then ((cC.f k1 t254 (rd t257 x25_1)).bind fun t262 => (if t262 = (rd t257 x25_1) then (if x12_1.length < 17592186044416 then (bK.l0 k1 a2 a4 t254 (x12_1 ++ [rd t257 x25_1]) t257 (t257.length : Int) (wrap64 (x25_1 + 1))) else (none)) else (bK.l0 k1 a2 a4 t254 x12_1 t257 (t257.length : Int) (wrap64 (x25_1 + 1))))) else (if x12_1.length < 17592186044416 then (bK.l0 k1 a2 a4 t254 (x12_1 ++ [rd t257 x25_1]) t257 (t257.length : Int) (wrap64 (x25_1 + 1))) else (none))) else (bK.l0 k1 a2 a4 t254 x12_1 t257 (t257.length : Int) (wrap64 (x25_1 + 1)))) = some r := H
      have A17 := aa.mk A170
      clear A170
      by_cases c18 : t261 = a2
      ·rw [if_pos c18] at H
       have c18b0 : (t261 == a2) = true := beq_iff_eq.mpr c18
       have c18b1 : (t261 != a2) = false := bne_eq_false_iff_eq.mpr c18
       clear c18
       by_cases c19 : a4 = true
       ·subst c19
        have H1 : ((cC.f k1 t254 (rd t257 x25_1)).bind fun t262 => (if t262 = (rd t257 x25_1) then (if x12_1.length < 17592186044416 then (bK.l0 k1 a2 true t254 (x12_1 ++ [rd t257 x25_1]) t257 (t257.length : Int) (wrap64 (x25_1 + 1))) else (none)) else (bK.l0 k1 a2 true t254 x12_1 t257 (t257.length : Int) (wrap64 (x25_1 + 1))))) = some r := by rw [if_pos rfl] at H; exact H
        clear H
        have H := H1
        clear H1
        replace H := Option.bind_eq_some_iff.mp H
        obtain ⟨t262, A200, H⟩ := H
        replace H : (if t262 = (rd t257 x25_1) then (if x12_1.length < 17592186044416 then (bK.l0 k1 a2 true t254 (x12_1 ++ [rd t257 x25_1]) t257 (t257.length : Int) (wrap64 (x25_1 + 1))) else (none)) else (bK.l0 k1 a2 true t254 x12_1 t257 (t257.length : Int) (wrap64 (x25_1 + 1)))) = some r := H
        have A20 := aa.mk A200
        clear A200
        by_cases c21 : t262 = (rd t257 x25_1)
        ·rw [if_pos c21] at H
         have c21b0 : (t262 == (rd t257 x25_1)) = true := beq_iff_eq.mpr c21
         have c21b1 : (t262 != (rd t257 x25_1)) = false := bne_eq_false_iff_eq.mpr c21
         clear c21
         by_cases c22 : x12_1.length < 17592186044416
         ·rw [if_pos c22] at H
          have LMc22 := aa.mk c22
          clear c22
          obtain ⟨y263, hy263⟩ : ∃ y_ : List Int, y_ = (x12_1 ++ [rd t257 x25_1]) := ⟨_, rfl⟩
          replace H : (bK.l0 k1 a2 true t254 y263 t257 (t257.length : Int) (wrap64 (x25_1 + 1))) = some r := by first | (rw [hy263]; with_reducible exact H) | (have H2_ := (Option.bind_some _ _).symm.trans H; rw [hy263]; with_reducible exact H2_) | (have H2_ := (Option.bind_some _ _).symm.trans H; with_reducible exact H2_) | with_reducible exact H | (rw [hy263]; exact H) | exact H
          have Ny263 := aa.mk hy263
          clear hy263
          have H' := aa.mk H
          clear H
          have p260 : 0 ≤ (x25_1 : Int) := of_decide_eq_true (by first | (with_reducible assumption) | assumption)
          have q260 : x25_1 < (t257.length : Int) := of_decide_eq_true (by first | (with_reducible assumption) | assumption)
          obtain ⟨ad260, e260, rE⟩ := Kd.dv (Kd.bZ eC.out).2.2 x25_1 p260 q260
          cases e260
          replace p260 := eq_true p260
          replace q260 := eq_true q260
          obtain ⟨yt, yl, Cj⟩ := Kd.bE du.out
          subst Cj
          go_wp2_with (first | ((with_reducible refine az (f := 137) rfl ?_); refine bI (some 31) rfl rfl Tryz.func137 (by kernel_rfl) rfl #[.slice yt t254.length yl, .int .i64 (rd t257 x25_1)] rfl (by (try simp only [List.map_toArray, List.map_cons, List.map_nil]); first | done | rfl | (simp only [List.length_drop, List.length_take]; rfl)) ?_; (with_reducible refine (cM.calls k1 _ _ t254 (rd t257 x25_1) t261 _ ?side1 ?side2 A17.out).mono ?_); (case side1 => repeat (first | exact (Kd.bZ du.out).2.2 | (with_reducible refine Kd.aX ?_ _) | (with_reducible refine Kd.aW ?_ _) | (with_reducible refine Kd.bh ?_))); (case side2 => exact (Kd.bZ du.out).2.1); rintro e w24 ⟨rfl, hb⟩; refine ⟨_, rfl, ?_⟩; have n0_ := aa.mk (Kd.cx (by (with_reducible repeat (first | apply Kd.aH | apply Kd.aG | apply Kd.aQ)); exact du.out) hb); have n1_ := aa.mk (Kd.cx (by (with_reducible repeat (first | apply Kd.aH | apply Kd.aG | apply Kd.aQ)); exact fi.out) hb); have n2_ := aa.mk (Kd.cx (by (with_reducible repeat (first | apply Kd.aH | apply Kd.aG | apply Kd.aQ)); exact eC.out) hb); have n3_ := aa.mk (aD (g := gH) (o := .cells #[.int .i64 a0_0, .int .i64 a0_1, .slice A0_2 l0_2.length c0_2, .slice A0_3 l0_3.length c0_3] 28 (0, 0)) (by (with_reducible repeat (first | refine al ?_ _ | refine ao ?_ | refine an ?_ _)); exact di.out) hb); have n4_ := aa.mk (ar (by repeat (first | (with_reducible first | exact HB.out | apply ag | apply af | apply ah | refine ak ?_ ia.out) | exact HB.out)) hb); clear du; clear fi; clear eC; clear di; clear HB; have du := n0_; have fi := n1_; have eC := n2_; have di := n3_; have HB := n4_; clear n0_ n1_ n2_ n3_ n4_; (try clear hb); (try clear hb2); (try clear hk); (try clear hi)) | (go_at_call 138; (with_reducible refine (cC.calls k1 _ _ t254 (rd t257 x25_1) t262 _ ?side1 ?side2 A20.out).mono ?_); (case side1 => repeat (first | exact (Kd.bZ du.out).2.2 | (with_reducible refine Kd.aX ?_ _) | (with_reducible refine Kd.aW ?_ _) | (with_reducible refine Kd.bh ?_))); (case side2 => exact (Kd.bZ du.out).2.1); rintro e w25 ⟨rfl, hb⟩; have n0_ := aa.mk (Kd.cx (by (with_reducible repeat (first | apply Kd.aH | apply Kd.aG | apply Kd.aQ)); exact du.out) hb); have n1_ := aa.mk (Kd.cx (by (with_reducible repeat (first | apply Kd.aH | apply Kd.aG | apply Kd.aQ)); exact fi.out) hb); have n2_ := aa.mk (Kd.cx (by (with_reducible repeat (first | apply Kd.aH | apply Kd.aG | apply Kd.aQ)); exact eC.out) hb); have n3_ := aa.mk (aD (g := gH) (o := .cells #[.int .i64 a0_0, .int .i64 a0_1, .slice A0_2 l0_2.length c0_2, .slice A0_3 l0_3.length c0_3] 28 (0, 0)) (by (with_reducible repeat (first | refine al ?_ _ | refine ao ?_ | refine an ?_ _)); exact di.out) hb); have n4_ := aa.mk (ar (by repeat (first | (with_reducible first | exact HB.out | apply ag | apply af | apply ah | refine ak ?_ ia.out) | exact HB.out)) hb); clear du; clear fi; clear eC; clear di; clear HB; have du := n0_; have fi := n1_; have eC := n2_; have di := n3_; have HB := n4_; clear n0_ n1_ n2_ n3_ n4_; (try clear hb); (try clear hb2); (try clear hk); (try clear hi)) | ((with_reducible refine cH (b := .append) (xs := #[.tmp 45, .tmp 47]) rfl ?_); at_builtin; refine Kd.eb (Kd.int .i64) (w0 := w) w.heap.size rfl (.tmp 45) (.tmp 47) 22 3 (.int .i64 0) 8 rfl Tryz.underlying22 iY rfl (by decide) (by omega) u12 x12_1 (rd t257 x25_1) [.int .i64 (rd t257 x25_1)] (fun k_ => some k_ ≠ (.slice (some ad260) t257.length jg : Value).ownBlock) (fun _ => False) rfl rfl ?aP (fun _ hk => hk.elim) ?aF ?aO ?aB ?aS ?aL ?_; (case aP => exact rfl); (case aB => exact (by repeat (first | (with_reducible first | exact HB.out | apply ag | apply af | apply ah | refine ak ?_ ia.out) | exact HB.out))); (case aF => exact (fun k_ hk => Kd.u0 (Kd.ko (by (with_reducible repeat (first | apply Kd.aH | apply Kd.aG | apply Kd.aQ)); exact eC.out)) k_ hk)); (case aO => exact (by (with_reducible repeat (first | apply Kd.aH | apply Kd.aG | apply Kd.aQ)); exact fi.out)); (case aS => exact (aq (by repeat (first | (with_reducible first | exact HB.out | apply ag | apply af | apply ah | refine ak ?_ ia.out) | exact HB.out)))); (case aL => have := LMc22.out; omega); intro v264 w26 ho hb hg hat; rw [← Ny263.out] at ho; have n0_ := aa.mk (Kd.xk (by (with_reducible repeat (first | apply Kd.aH | apply Kd.aG | apply Kd.aQ)); exact du.out) (Kd.sW (by (with_reducible repeat (first | apply Kd.aH | apply Kd.aG | apply Kd.aQ)); exact fi.out)) (by decide) hg); have n1_ := aa.mk (Kd.sZ (ok := (fun _ => True)) (by (with_reducible repeat (first | apply Kd.aH | apply Kd.aG | apply Kd.aQ)); exact Kd.bV eC.out (fun _ hk => ⟨trivial, hk⟩)) hg hat); have n2_ := aa.mk (eM (g := gH) (o := .cells #[.int .i64 a0_0, .int .i64 a0_1, .slice A0_2 l0_2.length c0_2, .slice A0_3 l0_3.length c0_3] 28 (0, 0)) (by (with_reducible repeat (first | refine al ?_ _ | refine ao ?_ | refine an ?_ _)); exact di.out) hg (Kd.jF fi.out di.out (by decide))); have n3_ := aa.mk (hb); have n4_ := aa.mk (ho); clear du; clear eC; clear di; clear HB; clear fi; have du := n0_; have eC := n1_; have di := n2_; have HB := n3_; have FG := n4_; clear n0_ n1_ n2_ n3_ n4_; clear ho hb hg hat))
          go_roundg k1
          case measure => have := HK1.out; omega
          case rel => exact ⟨(y263), (wrap64 (x25_1 + 1)), (by first | rfl | (simp; done) | (simp [*]; done)), H', ⟨by have := HK1.out; omega⟩, ⟨by (with_reducible repeat (first | apply Kd.aH | apply Kd.aG | apply Kd.aQ)); exact du.out⟩, ⟨by (with_reducible repeat (first | apply Kd.aH | apply Kd.aG | apply Kd.aQ)); exact FG.out⟩, ⟨by (with_reducible repeat (first | apply Kd.aH | apply Kd.aG | apply Kd.aQ)); exact Kd.bV eC.out (fun _ hk => hk.2)⟩, ⟨by (with_reducible repeat (first | refine al ?_ _ | refine ao ?_ | refine an ?_ _)); exact di.out⟩, ⟨by repeat (first | (with_reducible first | exact HB.out | apply ag | apply af | apply ah | refine ak ?_ ia.out) | exact HB.out)⟩⟩
         ·rw [if_neg c22] at H
          exact absurd H (by simp)
        ·rw [if_neg c21] at H
         have c21b0 : (t262 == (rd t257 x25_1)) = false := beq_eq_false_iff_ne.mpr c21
         have c21b1 : (t262 != (rd t257 x25_1)) = true := bne_iff_ne.mpr c21
         have H' := aa.mk H
         clear H
         have p260 : 0 ≤ (x25_1 : Int) := of_decide_eq_true (by first | (with_reducible assumption) | assumption)
         have q260 : x25_1 < (t257.length : Int) := of_decide_eq_true (by first | (with_reducible assumption) | assumption)
         obtain ⟨ad260, e260, rE⟩ := Kd.dv (Kd.bZ eC.out).2.2 x25_1 p260 q260
         cases e260
         replace p260 := eq_true p260
         replace q260 := eq_true q260
         obtain ⟨Ao27, co27, eo27⟩ := Kd.bE du.out
         subst eo27
         go_wp2_with (first | ((with_reducible refine az (f := 137) rfl ?_); refine bI (some 31) rfl rfl Tryz.func137 (by kernel_rfl) rfl #[.slice Ao27 t254.length co27, .int .i64 (rd t257 x25_1)] rfl (by (try simp only [List.map_toArray, List.map_cons, List.map_nil]); first | done | rfl | (simp only [List.length_drop, List.length_take]; rfl)) ?_; (with_reducible refine (cM.calls k1 _ _ t254 (rd t257 x25_1) t261 _ ?side1 ?side2 A17.out).mono ?_); (case side1 => repeat (first | exact (Kd.bZ du.out).2.2 | (with_reducible refine Kd.aX ?_ _) | (with_reducible refine Kd.aW ?_ _) | (with_reducible refine Kd.bh ?_))); (case side2 => exact (Kd.bZ du.out).2.1); rintro e w28 ⟨rfl, hb⟩; refine ⟨_, rfl, ?_⟩; have n0_ := aa.mk (Kd.cx (by (with_reducible repeat (first | apply Kd.aH | apply Kd.aG | apply Kd.aQ)); exact du.out) hb); have n1_ := aa.mk (Kd.cx (by (with_reducible repeat (first | apply Kd.aH | apply Kd.aG | apply Kd.aQ)); exact fi.out) hb); have n2_ := aa.mk (Kd.cx (by (with_reducible repeat (first | apply Kd.aH | apply Kd.aG | apply Kd.aQ)); exact eC.out) hb); have n3_ := aa.mk (aD (g := gH) (o := .cells #[.int .i64 a0_0, .int .i64 a0_1, .slice A0_2 l0_2.length c0_2, .slice A0_3 l0_3.length c0_3] 28 (0, 0)) (by (with_reducible repeat (first | refine al ?_ _ | refine ao ?_ | refine an ?_ _)); exact di.out) hb); have n4_ := aa.mk (ar (by repeat (first | (with_reducible first | exact HB.out | apply ag | apply af | apply ah | refine ak ?_ ia.out) | exact HB.out)) hb); clear du; clear fi; clear eC; clear di; clear HB; have du := n0_; have fi := n1_; have eC := n2_; have di := n3_; have HB := n4_; clear n0_ n1_ n2_ n3_ n4_; (try clear hb); (try clear hb2); (try clear hk); (try clear hi)) | (go_at_call 138; (with_reducible refine (cC.calls k1 _ _ t254 (rd t257 x25_1) t262 _ ?side1 ?side2 A20.out).mono ?_); (case side1 => repeat (first | exact (Kd.bZ du.out).2.2 | (with_reducible refine Kd.aX ?_ _) | (with_reducible refine Kd.aW ?_ _) | (with_reducible refine Kd.bh ?_))); (case side2 => exact (Kd.bZ du.out).2.1); rintro e w29 ⟨rfl, hb⟩; have n0_ := aa.mk (Kd.cx (by (with_reducible repeat (first | apply Kd.aH | apply Kd.aG | apply Kd.aQ)); exact du.out) hb); have n1_ := aa.mk (Kd.cx (by (with_reducible repeat (first | apply Kd.aH | apply Kd.aG | apply Kd.aQ)); exact fi.out) hb); have n2_ := aa.mk (Kd.cx (by (with_reducible repeat (first | apply Kd.aH | apply Kd.aG | apply Kd.aQ)); exact eC.out) hb); have n3_ := aa.mk (aD (g := gH) (o := .cells #[.int .i64 a0_0, .int .i64 a0_1, .slice A0_2 l0_2.length c0_2, .slice A0_3 l0_3.length c0_3] 28 (0, 0)) (by (with_reducible repeat (first | refine al ?_ _ | refine ao ?_ | refine an ?_ _)); exact di.out) hb); have n4_ := aa.mk (ar (by repeat (first | (with_reducible first | exact HB.out | apply ag | apply af | apply ah | refine ak ?_ ia.out) | exact HB.out)) hb); clear du; clear fi; clear eC; clear di; clear HB; have du := n0_; have fi := n1_; have eC := n2_; have di := n3_; have HB := n4_; clear n0_ n1_ n2_ n3_ n4_; (try clear hb); (try clear hb2); (try clear hk); (try clear hi)))
         go_roundg k1
         case measure => have := HK1.out; omega
         case rel => exact ⟨(x12_1), (wrap64 (x25_1 + 1)), (by first | rfl | (simp; done) | (simp [*]; done)), H', ⟨by have := HK1.out; omega⟩, ⟨by (with_reducible repeat (first | apply Kd.aH | apply Kd.aG | apply Kd.aQ)); exact du.out⟩, ⟨by (with_reducible repeat (first | apply Kd.aH | apply Kd.aG | apply Kd.aQ)); exact fi.out⟩, ⟨by (with_reducible repeat (first | apply Kd.aH | apply Kd.aG | apply Kd.aQ)); exact eC.out⟩, ⟨by (with_reducible repeat (first | refine al ?_ _ | refine ao ?_ | refine an ?_ _)); exact di.out⟩, ⟨by repeat (first | (with_reducible first | exact HB.out | apply ag | apply af | apply ah | refine ak ?_ ia.out) | exact HB.out)⟩⟩
       ·replace c19 := Bool.eq_false_iff.mpr c19
        subst c19
        have H1 : (if x12_1.length < 17592186044416 then (bK.l0 k1 a2 false t254 (x12_1 ++ [rd t257 x25_1]) t257 (t257.length : Int) (wrap64 (x25_1 + 1))) else (none)) = some r := by rw [if_neg (show ¬ (false = true) by decide)] at H; exact H
        clear H
        have H := H1
        clear H1
        by_cases c30 : x12_1.length < 17592186044416
        ·rw [if_pos c30] at H
         have LMc30 := aa.mk c30
         clear c30
         obtain ⟨y266, hy266⟩ : ∃ y_ : List Int, y_ = (x12_1 ++ [rd t257 x25_1]) := ⟨_, rfl⟩
         replace H : (bK.l0 k1 a2 false t254 y266 t257 (t257.length : Int) (wrap64 (x25_1 + 1))) = some r := by first | (rw [hy266]; with_reducible exact H) | (have H2_ := (Option.bind_some _ _).symm.trans H; rw [hy266]; with_reducible exact H2_) | (have H2_ := (Option.bind_some _ _).symm.trans H; with_reducible exact H2_) | with_reducible exact H | (rw [hy266]; exact H) | exact H
         have Ny266 := aa.mk hy266
         clear hy266
         have H' := aa.mk H
         clear H
         have p260 : 0 ≤ (x25_1 : Int) := of_decide_eq_true (by first | (with_reducible assumption) | assumption)
         have q260 : x25_1 < (t257.length : Int) := of_decide_eq_true (by first | (with_reducible assumption) | assumption)
         obtain ⟨ad260, e260, rE⟩ := Kd.dv (Kd.bZ eC.out).2.2 x25_1 p260 q260
         cases e260
         replace p260 := eq_true p260
         replace q260 := eq_true q260
         obtain ⟨Ao31, co31, eo31⟩ := Kd.bE du.out
         subst eo31
         go_wp2_with (first | ((with_reducible refine az (f := 137) rfl ?_); refine bI (some 31) rfl rfl Tryz.func137 (by kernel_rfl) rfl #[.slice Ao31 t254.length co31, .int .i64 (rd t257 x25_1)] rfl (by (try simp only [List.map_toArray, List.map_cons, List.map_nil]); first | done | rfl | (simp only [List.length_drop, List.length_take]; rfl)) ?_; (with_reducible refine (cM.calls k1 _ _ t254 (rd t257 x25_1) t261 _ ?side1 ?side2 A17.out).mono ?_); (case side1 => repeat (first | exact (Kd.bZ du.out).2.2 | (with_reducible refine Kd.aX ?_ _) | (with_reducible refine Kd.aW ?_ _) | (with_reducible refine Kd.bh ?_))); (case side2 => exact (Kd.bZ du.out).2.1); rintro e w32 ⟨rfl, hb⟩; refine ⟨_, rfl, ?_⟩; have n0_ := aa.mk (Kd.cx (by (with_reducible repeat (first | apply Kd.aH | apply Kd.aG | apply Kd.aQ)); exact du.out) hb); have n1_ := aa.mk (Kd.cx (by (with_reducible repeat (first | apply Kd.aH | apply Kd.aG | apply Kd.aQ)); exact fi.out) hb); have n2_ := aa.mk (Kd.cx (by (with_reducible repeat (first | apply Kd.aH | apply Kd.aG | apply Kd.aQ)); exact eC.out) hb); have n3_ := aa.mk (aD (g := gH) (o := .cells #[.int .i64 a0_0, .int .i64 a0_1, .slice A0_2 l0_2.length c0_2, .slice A0_3 l0_3.length c0_3] 28 (0, 0)) (by (with_reducible repeat (first | refine al ?_ _ | refine ao ?_ | refine an ?_ _)); exact di.out) hb); have n4_ := aa.mk (ar (by repeat (first | (with_reducible first | exact HB.out | apply ag | apply af | apply ah | refine ak ?_ ia.out) | exact HB.out)) hb); clear du; clear fi; clear eC; clear di; clear HB; have du := n0_; have fi := n1_; have eC := n2_; have di := n3_; have HB := n4_; clear n0_ n1_ n2_ n3_ n4_; (try clear hb); (try clear hb2); (try clear hk); (try clear hi)) | ((with_reducible refine cH (b := .append) (xs := #[.tmp 45, .tmp 47]) rfl ?_); at_builtin; refine Kd.eb (Kd.int .i64) (w0 := w) w.heap.size rfl (.tmp 45) (.tmp 47) 22 3 (.int .i64 0) 8 rfl Tryz.underlying22 iY rfl (by decide) (by omega) u12 x12_1 (rd t257 x25_1) [.int .i64 (rd t257 x25_1)] (fun k_ => some k_ ≠ (.slice (some ad260) t257.length jg : Value).ownBlock) (fun _ => False) rfl rfl ?aP (fun _ hk => hk.elim) ?aF ?aO ?aB ?aS ?aL ?_; (case aP => exact rfl); (case aB => exact (by repeat (first | (with_reducible first | exact HB.out | apply ag | apply af | apply ah | refine ak ?_ ia.out) | exact HB.out))); (case aF => exact (fun k_ hk => Kd.u0 (Kd.ko (by (with_reducible repeat (first | apply Kd.aH | apply Kd.aG | apply Kd.aQ)); exact eC.out)) k_ hk)); (case aO => exact (by (with_reducible repeat (first | apply Kd.aH | apply Kd.aG | apply Kd.aQ)); exact fi.out)); (case aS => exact (aq (by repeat (first | (with_reducible first | exact HB.out | apply ag | apply af | apply ah | refine ak ?_ ia.out) | exact HB.out)))); (case aL => have := LMc30.out; omega); intro v267 w33 ho hb hg hat; rw [← Ny266.out] at ho; have n0_ := aa.mk (Kd.xk (by (with_reducible repeat (first | apply Kd.aH | apply Kd.aG | apply Kd.aQ)); exact du.out) (Kd.sW (by (with_reducible repeat (first | apply Kd.aH | apply Kd.aG | apply Kd.aQ)); exact fi.out)) (by decide) hg); have n1_ := aa.mk (Kd.sZ (ok := (fun _ => True)) (by (with_reducible repeat (first | apply Kd.aH | apply Kd.aG | apply Kd.aQ)); exact Kd.bV eC.out (fun _ hk => ⟨trivial, hk⟩)) hg hat); have n2_ := aa.mk (eM (g := gH) (o := .cells #[.int .i64 a0_0, .int .i64 a0_1, .slice A0_2 l0_2.length c0_2, .slice A0_3 l0_3.length c0_3] 28 (0, 0)) (by (with_reducible repeat (first | refine al ?_ _ | refine ao ?_ | refine an ?_ _)); exact di.out) hg (Kd.jF fi.out di.out (by decide))); have n3_ := aa.mk (hb); have n4_ := aa.mk (ho); clear du; clear eC; clear di; clear HB; clear fi; have du := n0_; have eC := n1_; have di := n2_; have HB := n3_; have FF := n4_; clear n0_ n1_ n2_ n3_ n4_; clear ho hb hg hat))
         go_roundg k1
         case measure => have := HK1.out; omega
         case rel => exact ⟨(y266), (wrap64 (x25_1 + 1)), (by first | rfl | (simp; done) | (simp [*]; done)), H', ⟨by have := HK1.out; omega⟩, ⟨by (with_reducible repeat (first | apply Kd.aH | apply Kd.aG | apply Kd.aQ)); exact du.out⟩, ⟨by (with_reducible repeat (first | apply Kd.aH | apply Kd.aG | apply Kd.aQ)); exact FF.out⟩, ⟨by (with_reducible repeat (first | apply Kd.aH | apply Kd.aG | apply Kd.aQ)); exact Kd.bV eC.out (fun _ hk => hk.2)⟩, ⟨by (with_reducible repeat (first | refine al ?_ _ | refine ao ?_ | refine an ?_ _)); exact di.out⟩, ⟨by repeat (first | (with_reducible first | exact HB.out | apply ag | apply af | apply ah | refine ak ?_ ia.out) | exact HB.out)⟩⟩
        ·rw [if_neg c30] at H
         exact absurd H (by simp)
      ·rw [if_neg c18] at H
       have c18b0 : (t261 == a2) = false := beq_eq_false_iff_ne.mpr c18
       have c18b1 : (t261 != a2) = true := bne_iff_ne.mpr c18
       have H' := aa.mk H
       clear H
       have p260 : 0 ≤ (x25_1 : Int) := of_decide_eq_true (by first | (with_reducible assumption) | assumption)
       have q260 : x25_1 < (t257.length : Int) := of_decide_eq_true (by first | (with_reducible assumption) | assumption)
       obtain ⟨ad260, e260, rE⟩ := Kd.dv (Kd.bZ eC.out).2.2 x25_1 p260 q260
       cases e260
       replace p260 := eq_true p260
       replace q260 := eq_true q260
       obtain ⟨Ao34, co34, eo34⟩ := Kd.bE du.out
       subst eo34
       go_wp2_with (first | ((with_reducible refine az (f := 137) rfl ?_); refine bI (some 31) rfl rfl Tryz.func137 (by kernel_rfl) rfl #[.slice Ao34 t254.length co34, .int .i64 (rd t257 x25_1)] rfl (by (try simp only [List.map_toArray, List.map_cons, List.map_nil]); first | done | rfl | (simp only [List.length_drop, List.length_take]; rfl)) ?_; (with_reducible refine (cM.calls k1 _ _ t254 (rd t257 x25_1) t261 _ ?side1 ?side2 A17.out).mono ?_); (case side1 => repeat (first | exact (Kd.bZ du.out).2.2 | (with_reducible refine Kd.aX ?_ _) | (with_reducible refine Kd.aW ?_ _) | (with_reducible refine Kd.bh ?_))); (case side2 => exact (Kd.bZ du.out).2.1); rintro e w35 ⟨rfl, hb⟩; refine ⟨_, rfl, ?_⟩; have n0_ := aa.mk (Kd.cx (by (with_reducible repeat (first | apply Kd.aH | apply Kd.aG | apply Kd.aQ)); exact du.out) hb); have n1_ := aa.mk (Kd.cx (by (with_reducible repeat (first | apply Kd.aH | apply Kd.aG | apply Kd.aQ)); exact fi.out) hb); have n2_ := aa.mk (Kd.cx (by (with_reducible repeat (first | apply Kd.aH | apply Kd.aG | apply Kd.aQ)); exact eC.out) hb); have n3_ := aa.mk (aD (g := gH) (o := .cells #[.int .i64 a0_0, .int .i64 a0_1, .slice A0_2 l0_2.length c0_2, .slice A0_3 l0_3.length c0_3] 28 (0, 0)) (by (with_reducible repeat (first | refine al ?_ _ | refine ao ?_ | refine an ?_ _)); exact di.out) hb); have n4_ := aa.mk (ar (by repeat (first | (with_reducible first | exact HB.out | apply ag | apply af | apply ah | refine ak ?_ ia.out) | exact HB.out)) hb); clear du; clear fi; clear eC; clear di; clear HB; have du := n0_; have fi := n1_; have eC := n2_; have di := n3_; have HB := n4_; clear n0_ n1_ n2_ n3_ n4_; (try clear hb); (try clear hb2); (try clear hk); (try clear hi)))
       go_roundg k1
       case measure => have := HK1.out; omega
       case rel => exact ⟨(x12_1), (wrap64 (x25_1 + 1)), (by first | rfl | (simp; done) | (simp [*]; done)), H', ⟨by have := HK1.out; omega⟩, ⟨by (with_reducible repeat (first | apply Kd.aH | apply Kd.aG | apply Kd.aQ)); exact du.out⟩, ⟨by (with_reducible repeat (first | apply Kd.aH | apply Kd.aG | apply Kd.aQ)); exact fi.out⟩, ⟨by (with_reducible repeat (first | apply Kd.aH | apply Kd.aG | apply Kd.aQ)); exact eC.out⟩, ⟨by (with_reducible repeat (first | refine al ?_ _ | refine ao ?_ | refine an ?_ _)); exact di.out⟩, ⟨by repeat (first | (with_reducible first | exact HB.out | apply ag | apply af | apply ah | refine ak ?_ ia.out) | exact HB.out)⟩⟩
     ·rw [if_neg c16] at H
      exact absurd H (by simp)
    ·rw [if_neg c15] at H
     exact absurd H (by simp)
   ·rw [if_neg c14] at H
    have c14b0 : decide (x25_1 < (t257.length : Int)) = false := decide_eq_false c14
    clear c14
    obtain rfl := Option.some.inj H
    go_wp2
    go_ret
    exact ⟨_, by first | rfl | (simp [av, au] <;> rfl) | (simp [*, av, au] <;> rfl), by (with_reducible repeat (first | apply Kd.aH | apply Kd.aG | apply Kd.aQ)); exact Kd.bV fi.out (fun _ hk => trivial), by repeat (first | (with_reducible first | exact HB.out | apply ag | apply af | apply ah | refine ak ?_ ia.out) | exact HB.out)⟩
end Go.Proofs.YtmjlmloomkodpaaGreatDoor.PA
namespace Go.Proofs.YtmjlmloomkodpaaGreatDoor.PA
open Go.RowKit Go.Proofs.ae.aw Go.Proofs.ae.aJ Go.Proofs.ae.aN
attribute [local go_sem] bo bm bC bB a6 aZ bn bj
set_option linter.unusedVariables false
set_option linter.unusedSimpArgs false
def gj.f (k : Nat) (a0_0 : Int) (a0_1 : Int) (l0_2 : List Int) (l0_3 : List Int) (a0_4 : Int) (a0_5 : Bool) (a0_6 : Int) : Option (List Int × Bool) := (bK.f k a0_0 a0_1 l0_2 l0_3 a0_4 a0_6 a0_5 true).bind fun t270 => (some (t270, decide ((t270.length : Int) ≤ 150)))
set_option maxHeartbeats 8000000 in
set_option maxRecDepth 100000 in
theorem gj.calls (k : Nat) (a0_0 : Int) (a0_1 : Int) (A0_2 : Option Addr) (c0_2 : Nat) (l0_2 : List Int) (A0_3 : Option Addr) (c0_3 : Nat) (l0_3 : List Int) (a0_4 : Int) (a0_5 : Bool) (a0_6 : Int) (r1 : List Int) (r2 : Bool) (w : World) (ca : Kd.C (Kd.int .i64) w A0_2 l0_2.length l0_2) (bX : l0_2.length ≤ c0_2) (b0 : Kd.C (Kd.int .i64) w A0_3 l0_3.length l0_3) (bW : l0_3.length ≤ c0_3) (h : gj.f k a0_0 a0_1 l0_2 l0_3 a0_4 a0_5 a0_6 = some (r1, r2)) :
  Calls Tryz.prog 64 #[.agg #[.int .i64 a0_0, .int .i64 a0_1, .slice A0_2 l0_2.length c0_2, .slice A0_3 l0_3.length c0_3, .int .i64 a0_4, .bool a0_5, .int .i64 a0_6]] w fun e w' => ∃ v0_ : Value, e = .returned (.tuple #[v0_, .bool r2]) ∧ Kd.R (Kd.int .i64) 3 w' w.heap.size (fun _ => True) v0_ r1 ∧ Below w.heap.size w w' := by
 have hu32 := Tryz.underlying32
 have hu28 := Tryz.underlying28
 have cy := aa.mk ca
 have cD := aa.mk bX
 clear ca bX
 have cF := aa.mk b0
 have cK := aa.mk bW
 clear b0 bW
 have HB := aa.mk (Below.refl w.heap.size w)
 have H : ((bK.f k a0_0 a0_1 l0_2 l0_3 a0_4 a0_6 a0_5 true).bind fun t270 => (some (t270, decide ((t270.length : Int) ≤ 150)))) = some (r1, r2) := h
 clear h
 replace H := Option.bind_eq_some_iff.mp H
 obtain ⟨t270, A20, H⟩ := H
 replace H : (some (t270, decide ((t270.length : Int) ≤ 150))) = some (r1, r2) := H
 have A2 := aa.mk A20
 clear A20
 simp only [Option.some.injEq, Prod.mk.injEq] at H
 obtain ⟨rfl, rfl⟩ := H
 go_enter Tryz.func64, Tryz.ntmps64
 go_wp2_with (first | ((with_reducible refine aV (N := 1) rfl ?_); refine aM ?hg (N := 1) ?hd (cs := #[.int .i64 a0_0, .int .i64 a0_1, .slice A0_2 l0_2.length c0_2, .slice A0_3 l0_3.length c0_3, .int .i64 a0_4, .bool a0_5, .int .i64 a0_6]) (t := 32) ?hr ?_; (case hd => rfl); (case hg => rfl); (case hr => first | (go_simp; done) | (go_simp; rfl)); intro mm hg w3 hbox hb; have n0_ := aa.mk (ar (by repeat (first | (with_reducible first | exact HB.out | apply ag | apply af | apply ah) | exact HB.out)) hb); have n1_ := aa.mk (hbox); have n2_ := aa.mk ((by rw [hg]; exact (aq (by repeat (first | (with_reducible first | exact HB.out | apply ag | apply af | apply ah) | exact HB.out))) : w.heap.size ≤ mm)); have n3_ := aa.mk ((by rw [hg]; exact (aq (by repeat (first | (with_reducible first | exact HB.out | apply ag | apply af | apply ah) | exact HB.out))) : w.heap.size ≤ mm)); clear HB; have HB := n0_; have jb := n1_; have GW269 := n2_; have zY := n3_; clear n0_ n1_ n2_ n3_; clear hb hbox hg; have hcz4_0 : w3.cell? ⟨mm, 0, none⟩ = some (.int .i64 a0_0) := (ai jb.out 0).trans rfl; have hcz4_1 : w3.cell? ⟨mm, 1, none⟩ = some (.int .i64 a0_1) := (ai jb.out 1).trans rfl; have hcz4_2 : w3.cell? ⟨mm, 2, none⟩ = some (.slice A0_2 l0_2.length c0_2) := (ai jb.out 2).trans rfl; have hcz4_3 : w3.cell? ⟨mm, 3, none⟩ = some (.slice A0_3 l0_3.length c0_3) := (ai jb.out 3).trans rfl; have hcz4_4 : w3.cell? ⟨mm, 4, none⟩ = some (.int .i64 a0_4) := (ai jb.out 4).trans rfl; have hcz4_5 : w3.cell? ⟨mm, 5, none⟩ = some (.bool a0_5) := (ai jb.out 5).trans rfl; have hcz4_6 : w3.cell? ⟨mm, 6, none⟩ = some (.int .i64 a0_6) := (ai jb.out 6).trans rfl; have hfz4_0 := aj jb.out 0; have hfz4_1 := aj jb.out 1; have hfz4_2 := aj jb.out 2; have hfz4_3 := aj jb.out 3; have hfz4_4 := aj jb.out 4; have hfz4_5 := aj jb.out 5; have hfz4_6 := aj jb.out 6) | ((with_reducible refine az (f := 103) rfl ?_); refine bI (some 13) rfl rfl Tryz.func103 (by kernel_rfl) rfl #[.agg #[.int .i64 a0_0, .int .i64 a0_1, .slice A0_2 l0_2.length c0_2, .slice A0_3 l0_3.length c0_3], .int .i64 a0_4, .int .i64 a0_6, .bool a0_5, .bool true] rfl (by (try simp only [List.map_toArray, List.map_cons, List.map_nil]); first | done | rfl | (simp only [List.length_drop, List.length_take]; rfl)) ?_; (with_reducible refine (bK.calls k a0_0 a0_1 _ _ l0_2 _ _ l0_3 a0_4 a0_6 a0_5 true t270 _ ?side1 ?side2 ?side3 ?side4 A2.out).mono ?_); (case side1 => repeat (first | exact (Kd.ax cy.out HB.out) | (with_reducible refine Kd.aX ?_ _) | (with_reducible refine Kd.aW ?_ _) | (with_reducible refine Kd.bh ?_))); (case side2 => exact cD.out); (case side3 => repeat (first | exact (Kd.ax cF.out HB.out) | (with_reducible refine Kd.aX ?_ _) | (with_reducible refine Kd.aW ?_ _) | (with_reducible refine Kd.bh ?_))); (case side4 => exact cK.out); rintro e w5 ⟨v271, rfl, ho0, hb⟩; refine ⟨_, rfl, ?_⟩; have n0_ := aa.mk (Kd.cW ho0 (aq (by repeat (first | (with_reducible first | exact HB.out | apply ag | apply af | apply ah | refine ak ?_ zY.out) | exact HB.out)))); have n1_ := aa.mk (aD (g := mm) (o := .cells #[.int .i64 a0_0, .int .i64 a0_1, .slice A0_2 l0_2.length c0_2, .slice A0_3 l0_3.length c0_3, .int .i64 a0_4, .bool a0_5, .int .i64 a0_6] 32 (0, 0)) (by (with_reducible repeat (first | refine al ?_ _ | refine ao ?_ | refine an ?_ _)); exact jb.out) hb); have n2_ := aa.mk (ar (by repeat (first | (with_reducible first | exact HB.out | apply ag | apply af | apply ah | refine ak ?_ zY.out) | exact HB.out)) hb); clear jb; clear HB; have C0 := n0_; have jb := n1_; have HB := n2_; clear n0_ n1_ n2_; (try clear hb); (try clear hb2); (try clear hk); (try clear hi); (try clear ho0); obtain ⟨Ao6, co6, eo6⟩ := Kd.bE C0.out; subst eo6))
 go_ret2
 exact ⟨_, by first | rfl | (simp [av, au] <;> rfl) | (simp [*, av, au] <;> rfl), by (with_reducible repeat (first | apply Kd.aH | apply Kd.aG | apply Kd.aQ)); exact C0.out, by repeat (first | (with_reducible first | exact HB.out | apply ag | apply af | apply ah | refine ak ?_ zY.out) | exact HB.out)⟩
end Go.Proofs.YtmjlmloomkodpaaGreatDoor.PA
namespace Go.Proofs.YtmjlmloomkodpaaGreatDoor.PA
open Go.RowKit Go.Proofs.ae.aw Go.Proofs.ae.aJ Go.Proofs.ae.aN
attribute [local go_sem] bo bm bC bB a6 aZ bn bj
set_option linter.unusedVariables false
set_option linter.unusedSimpArgs false
def eZ.f (k : Nat) (a0_0 : Int) (a0_1 : Int) (l0_2 : List Int) (l0_3 : List Int) (a0_4 : Int) (a0_5 : Bool) (a0_6 : Int) : Option (List Int × Bool) := (cN.f k a0_0 a0_1 l0_2 l0_3 a0_4 a0_5 a0_6).bind fun t274 => (if t274 = true then ((gj.f k a0_0 a0_1 l0_2 l0_3 a0_4 a0_5 a0_6).bind fun bt275 => (some (bt275.1, bt275.2))) else (some (([] : List Int), false)))
set_option maxHeartbeats 8000000 in
set_option maxRecDepth 100000 in
theorem eZ.calls (k : Nat) (a0_0 : Int) (a0_1 : Int) (A0_2 : Option Addr) (c0_2 : Nat) (l0_2 : List Int) (A0_3 : Option Addr) (c0_3 : Nat) (l0_3 : List Int) (a0_4 : Int) (a0_5 : Bool) (a0_6 : Int) (r1 : List Int) (r2 : Bool) (w : World) (ca : Kd.C (Kd.int .i64) w A0_2 l0_2.length l0_2) (bX : l0_2.length ≤ c0_2) (b0 : Kd.C (Kd.int .i64) w A0_3 l0_3.length l0_3) (bW : l0_3.length ≤ c0_3) (h : eZ.f k a0_0 a0_1 l0_2 l0_3 a0_4 a0_5 a0_6 = some (r1, r2)) :
  Calls Tryz.prog 34 #[.agg #[.int .i64 a0_0, .int .i64 a0_1, .slice A0_2 l0_2.length c0_2, .slice A0_3 l0_3.length c0_3, .int .i64 a0_4, .bool a0_5, .int .i64 a0_6]] w fun e w' => ∃ v0_ : Value, e = .returned (.tuple #[v0_, .bool r2]) ∧ Kd.R (Kd.int .i64) 3 w' w.heap.size (fun _ => True) v0_ r1 ∧ Below w.heap.size w w' := by
 have hu32 := Tryz.underlying32
 have cy := aa.mk ca
 have cD := aa.mk bX
 clear ca bX
 have cF := aa.mk b0
 have cK := aa.mk bW
 clear b0 bW
 have HB := aa.mk (Below.refl w.heap.size w)
 have H : ((cN.f k a0_0 a0_1 l0_2 l0_3 a0_4 a0_5 a0_6).bind fun t274 => (if t274 = true then ((gj.f k a0_0 a0_1 l0_2 l0_3 a0_4 a0_5 a0_6).bind fun bt275 => (some (bt275.1, bt275.2))) else (some (([] : List Int), false)))) = some (r1, r2) := h
 clear h
 replace H := Option.bind_eq_some_iff.mp H
 obtain ⟨t274, A20, H⟩ := H
 replace H : (if t274 = true then ((gj.f k a0_0 a0_1 l0_2 l0_3 a0_4 a0_5 a0_6).bind fun bt275 => (some (bt275.1, bt275.2))) else (some (([] : List Int), false))) = some (r1, r2) := H
 have A2 := aa.mk A20
 clear A20
 by_cases c3 : t274 = true
 ·subst c3
  have H1 : ((gj.f k a0_0 a0_1 l0_2 l0_3 a0_4 a0_5 a0_6).bind fun bt275 => (some (bt275.1, bt275.2))) = some (r1, r2) := by rw [if_pos rfl] at H; exact H
  clear H
  have H := H1
  clear H1
  replace H := Option.bind_eq_some_iff.mp H
  obtain ⟨⟨t275, t278⟩, A40, H⟩ := H
  replace H : (some (t275, t278)) = some (r1, r2) := H
  have A4 := aa.mk A40
  clear A40
  simp only [Option.some.injEq, Prod.mk.injEq] at H
  obtain ⟨rfl, rfl⟩ := H
  go_enter Tryz.func34, Tryz.ntmps34
  go_wp2_with (first | ((with_reducible refine aV (N := 1) rfl ?_); refine aM ?hg (N := 1) ?hd (cs := #[.int .i64 a0_0, .int .i64 a0_1, .slice A0_2 l0_2.length c0_2, .slice A0_3 l0_3.length c0_3, .int .i64 a0_4, .bool a0_5, .int .i64 a0_6]) (t := 32) ?hr ?_; (case hd => rfl); (case hg => rfl); (case hr => first | (go_simp; done) | (go_simp; rfl)); intro fc hg w5 hbox hb; have n0_ := aa.mk (ar (by repeat (first | (with_reducible first | exact HB.out | apply ag | apply af | apply ah) | exact HB.out)) hb); have n1_ := aa.mk (hbox); have n2_ := aa.mk ((by rw [hg]; exact (aq (by repeat (first | (with_reducible first | exact HB.out | apply ag | apply af | apply ah) | exact HB.out))) : w.heap.size ≤ fc)); have n3_ := aa.mk ((by rw [hg]; exact (aq (by repeat (first | (with_reducible first | exact HB.out | apply ag | apply af | apply ah) | exact HB.out))) : w.heap.size ≤ fc)); clear HB; have HB := n0_; have dn := n1_; have F6 := n2_; have qg := n3_; clear n0_ n1_ n2_ n3_; clear hb hbox hg; have sk : w5.cell? ⟨fc, 0, none⟩ = some (.int .i64 a0_0) := (ai dn.out 0).trans rfl; have sj : w5.cell? ⟨fc, 1, none⟩ = some (.int .i64 a0_1) := (ai dn.out 1).trans rfl; have uX : w5.cell? ⟨fc, 2, none⟩ = some (.slice A0_2 l0_2.length c0_2) := (ai dn.out 2).trans rfl; have uW : w5.cell? ⟨fc, 3, none⟩ = some (.slice A0_3 l0_3.length c0_3) := (ai dn.out 3).trans rfl; have DD : w5.cell? ⟨fc, 4, none⟩ = some (.int .i64 a0_4) := (ai dn.out 4).trans rfl; have DC : w5.cell? ⟨fc, 5, none⟩ = some (.bool a0_5) := (ai dn.out 5).trans rfl; have DB : w5.cell? ⟨fc, 6, none⟩ = some (.int .i64 a0_6) := (ai dn.out 6).trans rfl; have rP := aj dn.out 0; have rO := aj dn.out 1; have uS := aj dn.out 2; have uR := aj dn.out 3; have Dx := aj dn.out 4; have Dw := aj dn.out 5; have Dv := aj dn.out 6) | ((with_reducible refine az (f := 63) rfl ?_); refine bI (some 5) rfl rfl Tryz.func63 (by kernel_rfl) rfl #[.agg #[.int .i64 a0_0, .int .i64 a0_1, .slice A0_2 l0_2.length c0_2, .slice A0_3 l0_3.length c0_3, .int .i64 a0_4, .bool a0_5, .int .i64 a0_6]] rfl (by (try simp only [List.map_toArray, List.map_cons, List.map_nil]); first | done | rfl | (simp only [List.length_drop, List.length_take]; rfl)) ?_; (with_reducible refine (cN.calls k a0_0 a0_1 _ _ l0_2 _ _ l0_3 a0_4 a0_5 a0_6 true _ ?side1 ?side2 ?side3 ?side4 A2.out).mono ?_); (case side1 => repeat (first | exact (Kd.ax cy.out HB.out) | (with_reducible refine Kd.aX ?_ _) | (with_reducible refine Kd.aW ?_ _) | (with_reducible refine Kd.bh ?_))); (case side2 => exact cD.out); (case side3 => repeat (first | exact (Kd.ax cF.out HB.out) | (with_reducible refine Kd.aX ?_ _) | (with_reducible refine Kd.aW ?_ _) | (with_reducible refine Kd.bh ?_))); (case side4 => exact cK.out); rintro e w7 ⟨rfl, hb⟩; refine ⟨_, rfl, ?_⟩; have n0_ := aa.mk (aD (g := fc) (o := .cells #[.int .i64 a0_0, .int .i64 a0_1, .slice A0_2 l0_2.length c0_2, .slice A0_3 l0_3.length c0_3, .int .i64 a0_4, .bool a0_5, .int .i64 a0_6] 32 (0, 0)) (by (with_reducible repeat (first | refine al ?_ _ | refine ao ?_ | refine an ?_ _)); exact dn.out) hb); have n1_ := aa.mk (ar (by repeat (first | (with_reducible first | exact HB.out | apply ag | apply af | apply ah | refine ak ?_ qg.out) | exact HB.out)) hb); clear dn; clear HB; have dn := n0_; have HB := n1_; clear n0_ n1_; (try clear hb); (try clear hb2); (try clear hk); (try clear hi); have ln : w7.cell? ⟨fc, 0, none⟩ = some (.int .i64 a0_0) := (ai dn.out 0).trans rfl; have ll : w7.cell? ⟨fc, 1, none⟩ = some (.int .i64 a0_1) := (ai dn.out 1).trans rfl; have mH : w7.cell? ⟨fc, 2, none⟩ = some (.slice A0_2 l0_2.length c0_2) := (ai dn.out 2).trans rfl; have mG : w7.cell? ⟨fc, 3, none⟩ = some (.slice A0_3 l0_3.length c0_3) := (ai dn.out 3).trans rfl; have hcz8_4 : w7.cell? ⟨fc, 4, none⟩ = some (.int .i64 a0_4) := (ai dn.out 4).trans rfl; have hcz8_5 : w7.cell? ⟨fc, 5, none⟩ = some (.bool a0_5) := (ai dn.out 5).trans rfl; have hcz8_6 : w7.cell? ⟨fc, 6, none⟩ = some (.int .i64 a0_6) := (ai dn.out 6).trans rfl; have k9 := aj dn.out 0; have k8 := aj dn.out 1; have mF := aj dn.out 2; have mE := aj dn.out 3; have hfz8_4 := aj dn.out 4; have hfz8_5 := aj dn.out 5; have hfz8_6 := aj dn.out 6) | ((with_reducible refine az (f := 64) rfl ?_); refine bI (some 8) rfl rfl Tryz.func64 (by kernel_rfl) rfl #[.agg #[.int .i64 a0_0, .int .i64 a0_1, .slice A0_2 l0_2.length c0_2, .slice A0_3 l0_3.length c0_3, .int .i64 a0_4, .bool a0_5, .int .i64 a0_6]] rfl (by (try simp only [List.map_toArray, List.map_cons, List.map_nil]); first | done | rfl | (simp only [List.length_drop, List.length_take]; rfl)) ?_; (with_reducible refine (gj.calls k a0_0 a0_1 _ _ l0_2 _ _ l0_3 a0_4 a0_5 a0_6 t275 t278 _ ?side1 ?side2 ?side3 ?side4 A4.out).mono ?_); (case side1 => repeat (first | exact (Kd.ax cy.out HB.out) | (with_reducible refine Kd.aX ?_ _) | (with_reducible refine Kd.aW ?_ _) | (with_reducible refine Kd.bh ?_))); (case side2 => exact cD.out); (case side3 => repeat (first | exact (Kd.ax cF.out HB.out) | (with_reducible refine Kd.aX ?_ _) | (with_reducible refine Kd.aW ?_ _) | (with_reducible refine Kd.bh ?_))); (case side4 => exact cK.out); rintro e w9 ⟨v276, rfl, ho0, hb⟩; refine ⟨_, rfl, ?_⟩; have n0_ := aa.mk (Kd.cW ho0 (aq (by repeat (first | (with_reducible first | exact HB.out | apply ag | apply af | apply ah | refine ak ?_ qg.out) | exact HB.out)))); have n1_ := aa.mk (aD (g := fc) (o := .cells #[.int .i64 a0_0, .int .i64 a0_1, .slice A0_2 l0_2.length c0_2, .slice A0_3 l0_3.length c0_3, .int .i64 a0_4, .bool a0_5, .int .i64 a0_6] 32 (0, 0)) (by (with_reducible repeat (first | refine al ?_ _ | refine ao ?_ | refine an ?_ _)); exact dn.out) hb); have n2_ := aa.mk (ar (by repeat (first | (with_reducible first | exact HB.out | apply ag | apply af | apply ah | refine ak ?_ qg.out) | exact HB.out)) hb); clear dn; clear HB; have FE := n0_; have dn := n1_; have HB := n2_; clear n0_ n1_ n2_; (try clear hb); (try clear hb2); (try clear hk); (try clear hi); (try clear ho0)))
  go_ret2
  exact ⟨_, by first | rfl | (simp [av, au] <;> rfl) | (simp [*, av, au] <;> rfl), by (with_reducible repeat (first | apply Kd.aH | apply Kd.aG | apply Kd.aQ)); exact FE.out, by repeat (first | (with_reducible first | exact HB.out | apply ag | apply af | apply ah | refine ak ?_ qg.out) | exact HB.out)⟩
 ·replace c3 := Bool.eq_false_iff.mpr c3
  subst c3
  have H1 : (some (([] : List Int), false)) = some (r1, r2) := by rw [if_neg (show ¬ (false = true) by decide)] at H; exact H
  clear H
  have H := H1
  clear H1
  simp only [Option.some.injEq, Prod.mk.injEq] at H
  obtain ⟨rfl, rfl⟩ := H
  go_enter Tryz.func34, Tryz.ntmps34
  go_wp2_with (first | ((with_reducible refine aV (N := 1) rfl ?_); refine aM ?hg (N := 1) ?hd (cs := #[.int .i64 a0_0, .int .i64 a0_1, .slice A0_2 l0_2.length c0_2, .slice A0_3 l0_3.length c0_3, .int .i64 a0_4, .bool a0_5, .int .i64 a0_6]) (t := 32) ?hr ?_; (case hd => rfl); (case hg => rfl); (case hr => first | (go_simp; done) | (go_simp; rfl)); intro fc hg w10 hbox hb; have n0_ := aa.mk (ar (by repeat (first | (with_reducible first | exact HB.out | apply ag | apply af | apply ah) | exact HB.out)) hb); have n1_ := aa.mk (hbox); have n2_ := aa.mk ((by rw [hg]; exact (aq (by repeat (first | (with_reducible first | exact HB.out | apply ag | apply af | apply ah) | exact HB.out))) : w.heap.size ≤ fc)); have n3_ := aa.mk ((by rw [hg]; exact (aq (by repeat (first | (with_reducible first | exact HB.out | apply ag | apply af | apply ah) | exact HB.out))) : w.heap.size ≤ fc)); clear HB; have HB := n0_; have dn := n1_; have F6 := n2_; have qg := n3_; clear n0_ n1_ n2_ n3_; clear hb hbox hg; have pa : w10.cell? ⟨fc, 0, none⟩ = some (.int .i64 a0_0) := (ai dn.out 0).trans rfl; have o9 : w10.cell? ⟨fc, 1, none⟩ = some (.int .i64 a0_1) := (ai dn.out 1).trans rfl; have o8 : w10.cell? ⟨fc, 2, none⟩ = some (.slice A0_2 l0_2.length c0_2) := (ai dn.out 2).trans rfl; have o7 : w10.cell? ⟨fc, 3, none⟩ = some (.slice A0_3 l0_3.length c0_3) := (ai dn.out 3).trans rfl; have wT : w10.cell? ⟨fc, 4, none⟩ = some (.int .i64 a0_4) := (ai dn.out 4).trans rfl; have wS : w10.cell? ⟨fc, 5, none⟩ = some (.bool a0_5) := (ai dn.out 5).trans rfl; have Cd : w10.cell? ⟨fc, 6, none⟩ = some (.int .i64 a0_6) := (ai dn.out 6).trans rfl; have o4 := aj dn.out 0; have o3 := aj dn.out 1; have o2 := aj dn.out 2; have oZ := aj dn.out 3; have wm := aj dn.out 4; have wk := aj dn.out 5; have BK := aj dn.out 6) | ((with_reducible refine az (f := 63) rfl ?_); refine bI (some 5) rfl rfl Tryz.func63 (by kernel_rfl) rfl #[.agg #[.int .i64 a0_0, .int .i64 a0_1, .slice A0_2 l0_2.length c0_2, .slice A0_3 l0_3.length c0_3, .int .i64 a0_4, .bool a0_5, .int .i64 a0_6]] rfl (by (try simp only [List.map_toArray, List.map_cons, List.map_nil]); first | done | rfl | (simp only [List.length_drop, List.length_take]; rfl)) ?_; (with_reducible refine (cN.calls k a0_0 a0_1 _ _ l0_2 _ _ l0_3 a0_4 a0_5 a0_6 false _ ?side1 ?side2 ?side3 ?side4 A2.out).mono ?_); (case side1 => repeat (first | exact (Kd.ax cy.out HB.out) | (with_reducible refine Kd.aX ?_ _) | (with_reducible refine Kd.aW ?_ _) | (with_reducible refine Kd.bh ?_))); (case side2 => exact cD.out); (case side3 => repeat (first | exact (Kd.ax cF.out HB.out) | (with_reducible refine Kd.aX ?_ _) | (with_reducible refine Kd.aW ?_ _) | (with_reducible refine Kd.bh ?_))); (case side4 => exact cK.out); rintro e w12 ⟨rfl, hb⟩; refine ⟨_, rfl, ?_⟩; have n0_ := aa.mk (aD (g := fc) (o := .cells #[.int .i64 a0_0, .int .i64 a0_1, .slice A0_2 l0_2.length c0_2, .slice A0_3 l0_3.length c0_3, .int .i64 a0_4, .bool a0_5, .int .i64 a0_6] 32 (0, 0)) (by (with_reducible repeat (first | refine al ?_ _ | refine ao ?_ | refine an ?_ _)); exact dn.out) hb); have n1_ := aa.mk (ar (by repeat (first | (with_reducible first | exact HB.out | apply ag | apply af | apply ah | refine ak ?_ qg.out) | exact HB.out)) hb); clear dn; clear HB; have dn := n0_; have HB := n1_; clear n0_ n1_; (try clear hb); (try clear hb2); (try clear hk); (try clear hi)))
  go_ret2
  exact ⟨_, by first | rfl | (simp [av, au] <;> rfl) | (simp [*, av, au] <;> rfl), by first | exact Kd.ir _ _ _ _ _ | exact Kd.mx _ _ _ _ _ | exact Kd.mu _ _ _ _ _ | exact Kd.mw _ _ _ _ _ | exact Kd.km _ _ _ _ _, by repeat (first | (with_reducible first | exact HB.out | apply ag | apply af | apply ah | refine ak ?_ qg.out) | exact HB.out)⟩
end Go.Proofs.YtmjlmloomkodpaaGreatDoor.PA
namespace Go.Proofs.YtmjlmloomkodpaaGreatDoor.PA
open Go.RowKit Go.Proofs.ae.aw Go.Proofs.ae.aJ Go.Proofs.ae.aN
attribute [local go_sem] bo bm bC bB a6 aZ bn bj
set_option linter.unusedVariables false
set_option linter.unusedSimpArgs false
def dj.l0 : Nat → Int → Int → List Int → Int → Int → Option (Int × Int)
 | 0, _, _, _, _, _ => none
 | k + 1, x4, x5, x11, x12, x13 => if x13 < x12 then (if 0 ≤ x13 then (if x13 < (x11.length : Int) then (dj.l0 k (Go.bits .and .i64 x4 (rd x11 x13)) (Go.bits .or .i64 x5 (rd x11 x13)) x11 x12 (wrap64 (x13 + 1))) else (none)) else (none)) else (some (x4, x5))
def dj.f (k : Nat) (l0 : List Int) : Option (Int × Int) := if 0 < (l0.length : Int) then (dj.l0 k (rd l0 0) 0 l0 (l0.length : Int) 0) else (none)
set_option maxHeartbeats 8000000 in
set_option maxRecDepth 100000 in
theorem dj.calls (k : Nat) (A0 : Option Addr) (c0 : Nat) (l0 : List Int) (r1 : Int) (r2 : Int) (w : World) (hr0 : Kd.C (Kd.int .i64) w A0 l0.length l0) (hc0 : l0.length ≤ c0) (h : dj.f k l0 = some (r1, r2)) :
  Calls Tryz.prog 35 #[.slice A0 l0.length c0] w fun e w' => e = .returned (.tuple #[.int .i64 r1, .int .i64 r2]) ∧ aK w w' := by
 have HR0 := aa.mk hr0
 have HC0 := aa.mk hc0
 clear hr0 hc0
 have H : (if 0 < (l0.length : Int) then (dj.l0 k (rd l0 0) 0 l0 (l0.length : Int) 0) else (none)) = some (r1, r2) := h
 clear h
 by_cases c2 : 0 < (l0.length : Int)
 ·rw [if_pos c2] at H
  have c2b0 : decide (0 < (l0.length : Int)) = true := decide_eq_true c2
  have c2b1 : decide (0 < l0.length) = true := decide_eq_true (by omega)
  clear c2
  have H' := aa.mk H
  clear H
  have p279 : 0 ≤ (0 : Int) := (by omega)
  have q279 : 0 < (l0.length : Int) := of_decide_eq_true (by first | (with_reducible assumption) | assumption)
  obtain ⟨ad279, e279, rD⟩ := Kd.dv HR0.out 0 p279 q279
  cases e279
  have qi279 : (0 < l0.length) = True := eq_true (by omega)
  (try rw [show ((0 : Int)).toNat = 0 from rfl] at rD)
  (try rw [Addr.add_zero'] at rD)
  replace p279 := eq_true p279
  replace q279 := eq_true q279
  go_enter Tryz.func35, Tryz.ntmps35
  go_wp2
  go_loopg [4, 5, 13] k (fun kq v4 v5 v13 w' => ∃ (x4_1 : Int) (x5_1 : Int) (x13_1 : Int), v4 = .int .i64 x4_1 ∧ v5 = .int .i64 x5_1 ∧ v13 = .int .i64 x13_1 ∧ aa (dj.l0 kq x4_1 x5_1 l0 (l0.length : Int) x13_1 = some (r1, r2)) ∧ aa (kq ≤ k) ∧ aK w w')
  case atStart => exact ⟨(rd l0 0), (0), (0), (by first | rfl | (simp; done) | (simp [*]; done)), (by first | rfl | (simp; done) | (simp [*]; done)), (by first | rfl | (simp; done) | (simp [*]; done)), H', ⟨Nat.le_refl _⟩, by repeat (first | exact aK.refl _ | apply aK.step)⟩
  case round =>
   clear H'
   try clear c2
   try clear c2b0
   try clear c2b1
   try clear p2
   try clear q2
   try clear hx2
   try clear qi2
   try clear rD
   try clear p279
   try clear q279
   obtain ⟨x4_1, x5_1, x13_1, rfl, rfl, rfl, HA, HK1, ⟨m1, rfl⟩⟩ := hrel
   cases gk with
   | zero => exact absurd HA.out (by simp [dj.l0])
   | succ k1 =>
    have H := HA.out
    clear HA
    simp only [dj.l0] at H
    by_cases c3 : x13_1 < (l0.length : Int)
    ·rw [if_pos c3] at H
     have c3b0 : decide (x13_1 < (l0.length : Int)) = true := decide_eq_true c3
     clear c3
     by_cases c4 : 0 ≤ x13_1
     ·rw [if_pos c4] at H
      have c4b0 : decide (0 ≤ x13_1) = true := decide_eq_true c4
      clear c4
      by_cases c5 : x13_1 < (l0.length : Int)
      ·rw [if_pos c5] at H
       have c5b0 : decide (x13_1 < (l0.length : Int)) = true := decide_eq_true c5
       clear c5
       have H' := aa.mk H
       clear H
       have p280 : 0 ≤ (x13_1 : Int) := of_decide_eq_true (by first | (with_reducible assumption) | assumption)
       have q280 : x13_1 < (l0.length : Int) := of_decide_eq_true (by first | (with_reducible assumption) | assumption)
       obtain ⟨ad280, e280, Gp⟩ := Kd.dv HR0.out x13_1 p280 q280
       obtain rfl : ad279 = ad280 := (by injection e280)
       replace p280 := eq_true p280
       replace q280 := eq_true q280
       go_wp2
       go_roundg k1
       case measure => have := HK1.out; omega
       case rel => exact ⟨(Go.bits .and .i64 x4_1 (rd l0 x13_1)), (Go.bits .or .i64 x5_1 (rd l0 x13_1)), (wrap64 (x13_1 + 1)), (by first | rfl | (simp; done) | (simp [*]; done)), (by first | rfl | (simp; done) | (simp [*]; done)), (by first | rfl | (simp; done) | (simp [*]; done)), H', ⟨by have := HK1.out; omega⟩, by repeat (first | exact aK.refl _ | apply aK.step)⟩
      ·rw [if_neg c5] at H
       exact absurd H (by simp)
     ·rw [if_neg c4] at H
      exact absurd H (by simp)
    ·rw [if_neg c3] at H
     have c3b0 : decide (x13_1 < (l0.length : Int)) = false := decide_eq_false c3
     clear c3
     simp only [Option.some.injEq, Prod.mk.injEq] at H
     obtain ⟨rfl, rfl⟩ := H
     go_wp2
     go_ret2
     exact ⟨by first | rfl | (simp; done) | (simp [*]; done), by repeat (first | exact aK.refl _ | apply aK.step)⟩
 ·rw [if_neg c2] at H
  exact absurd H (by simp)
end Go.Proofs.YtmjlmloomkodpaaGreatDoor.PA
namespace Go.Proofs.YtmjlmloomkodpaaGreatDoor.PA
open Go.RowKit Go.Proofs.ae.aw Go.Proofs.ae.aJ Go.Proofs.ae.aN
attribute [local go_sem] bo bm bC bB a6 aZ bn bj
set_option linter.unusedVariables false
set_option linter.unusedSimpArgs false
mutual
def bA.l0 : Nat → Int → Int → Int → Int → Int → Int → List Int → Option (Int × Int × List Int × List Int)
 | 0, _, _, _, _, _, _, _ => none
 | k + 1, x0, x1, x2, x8, x283000, x283001, x283002 => if x8 < (wrap64 (x0 * (wrap64 (x1 + 1)))) then ((cE.f x0 x1 false x8).bind fun t283 => (if (Go.bits .and .i64 x2 t283) = 0 then (bA.l0 k x0 x1 x2 (wrap64 (x8 + 1)) x283000 x283001 x283002) else (if x283002.length < 17592186044416 then (bA.l0 k x0 x1 x2 (wrap64 (x8 + 1)) x283000 x283001 (x283002 ++ [x8])) else (none)))) else (bA.l1 k x0 x1 x2 0 x283000 x283001 x283002 ([] : List Int))
def bA.l1 : Nat → Int → Int → Int → Int → Int → Int → List Int → List Int → Option (Int × Int × List Int × List Int)
 | 0, _, _, _, _, _, _, _, _ => none
 | k + 1, x0, x1, x2, x9, x283000, x283001, x283002, x283003 => if x9 < (wrap64 ((wrap64 (x0 + 1)) * x1)) then ((cE.f x0 x1 true x9).bind fun t287 => (if (Go.bits .and .i64 x2 t287) = 0 then (bA.l1 k x0 x1 x2 (wrap64 (x9 + 1)) x283000 x283001 x283002 x283003) else (if x283003.length < 17592186044416 then (bA.l1 k x0 x1 x2 (wrap64 (x9 + 1)) x283000 x283001 x283002 (x283003 ++ [x9])) else (none)))) else (some (x283000, x283001, x283002, x283003))
end
def bA.f (k : Nat) (a0 : Int) (a1 : Int) (a2 : Int) : Option (Int × Int × List Int × List Int) := bA.l0 k a0 a1 a2 0 a0 a1 ([] : List Int)
set_option maxHeartbeats 8000000 in
set_option maxRecDepth 100000 in
theorem bA.calls (k : Nat) (a0 : Int) (a1 : Int) (a2 : Int) (r1 : Int) (r2 : Int) (r3 : List Int) (r4 : List Int) (w : World) (h : bA.f k a0 a1 a2 = some (r1, r2, r3, r4)) :
  Calls Tryz.prog 36 #[.int .i64 a0, .int .i64 a1, .int .i64 a2] w fun e w' => ∃ v2_ v3_ : Value, e = .returned (.agg #[.int .i64 r1, .int .i64 r2, v2_, v3_]) ∧ Kd.R (Kd.int .i64) 3 w' w.heap.size (fun k_ => some k_ ≠ (v3_ : Value).ownBlock) v2_ r3 ∧ Kd.R (Kd.int .i64) 3 w' w.heap.size (fun k_ => some k_ ≠ (v2_ : Value).ownBlock) v3_ r4 ∧ Below w.heap.size w w' := by
 have hu28 := Tryz.underlying28
 have HB := aa.mk (Below.refl w.heap.size w)
 have H : (bA.l0 k a0 a1 a2 0 a0 a1 ([] : List Int)) = some (r1, r2, r3, r4) := h
 clear h
 have H' := aa.mk H
 clear H
 go_enter Tryz.func36, Tryz.ntmps36
 go_wp2_with (first | ((with_reducible refine aV (N := 6) rfl ?_); refine aM ?hg (N := 6) ?hd (cs := #[.int .i64 0, .int .i64 0, .slice none 0 0, .slice none 0 0]) (t := 28) ?hr ?_; (case hd => rfl); (case hg => rfl); (case hr => first | (go_simp; done) | (go_simp; rfl)); intro fK hg w4 hbox hb; have n0_ := aa.mk (ar (by repeat (first | (with_reducible first | exact HB.out | apply ag | apply af | apply ah) | exact HB.out)) hb); have n1_ := aa.mk (hbox); have n2_ := aa.mk ((by rw [hg]; exact (aq (by repeat (first | (with_reducible first | exact HB.out | apply ag | apply af | apply ah) | exact HB.out))) : w.heap.size ≤ fK)); have n3_ := aa.mk ((by rw [hg]; exact (aq (by repeat (first | (with_reducible first | exact HB.out | apply ag | apply af | apply ah) | exact HB.out))) : w.heap.size ≤ fK)); clear HB; have HB := n0_; have ef := n1_; have GW281 := n2_; have jh := n3_; clear n0_ n1_ n2_ n3_; clear hb hbox hg) | ((with_reducible refine aV (N := 7) rfl ?_); refine aM ?hg (N := 7) ?hd (cs := #[.int .i64 0, .int .i64 0, .slice none 0 0, .slice none 0 0]) (t := 28) ?hr ?_; (case hd => rfl); (case hg => rfl); (case hr => first | (go_simp; done) | (go_simp; rfl)); intro eo hg w5 hbox hb; have n0_ := aa.mk (aD (g := fK) (o := .cells #[.int .i64 0, .int .i64 0, .slice none 0 0, .slice none 0 0] 28 (0, 0)) (by (with_reducible repeat (first | refine al ?_ _ | refine ao ?_ | refine an ?_ _)); exact ef.out) hb); have n1_ := aa.mk (ar (by repeat (first | (with_reducible first | exact HB.out | apply ag | apply af | apply ah | refine ak ?_ jh.out) | exact HB.out)) hb); have n2_ := aa.mk (hbox); have n3_ := aa.mk ((by rw [hg]; exact (aq (by repeat (first | (with_reducible first | exact HB.out | apply ag | apply af | apply ah | refine ak ?_ jh.out) | exact HB.out))) : w.heap.size ≤ eo)); have n4_ := aa.mk ((by rw [hg]; exact (aq (by repeat (first | (with_reducible first | exact HB.out | apply ag | apply af | apply ah | refine ak ?_ jh.out) | exact HB.out))) : w.heap.size ≤ eo)); have n5_ := aa.mk ((by rw [hg]; exact Nat.ne_of_lt (a7 (g := fK) (o := .cells #[.int .i64 0, .int .i64 0, .slice none 0 0, .slice none 0 0] 28 (0, 0)) (by (with_reducible repeat (first | refine al ?_ _ | refine ao ?_ | refine an ?_ _)); exact ef.out)) : fK ≠ eo)); have n6_ := aa.mk ((by rw [hg]; exact Nat.ne_of_gt (a7 (g := fK) (o := .cells #[.int .i64 0, .int .i64 0, .slice none 0 0, .slice none 0 0] 28 (0, 0)) (by (with_reducible repeat (first | refine al ?_ _ | refine ao ?_ | refine an ?_ _)); exact ef.out)) : eo ≠ fK)); clear ef; clear HB; have ef := n0_; have HB := n1_; have cB := n2_; have GW282 := n3_; have ku := n4_; have fZ := n5_; have l7 := n6_; clear n0_ n1_ n2_ n3_ n4_ n5_ n6_; clear hb hbox hg; have hnb6 := l7.out; have hnc6 := fZ.out; have jA : w5.cell? ⟨eo, 0, none⟩ = some (.int .i64 0) := (ai cB.out 0).trans rfl; have jz : w5.cell? ⟨eo, 1, none⟩ = some (.int .i64 0) := (ai cB.out 1).trans rfl; have lr : w5.cell? ⟨eo, 2, none⟩ = some (.slice none 0 0) := (ai cB.out 2).trans rfl; have lq : w5.cell? ⟨eo, 3, none⟩ = some (.slice none 0 0) := (ai cB.out 3).trans rfl; have jy := aj cB.out 0; have jx := aj cB.out 1; have lf := aj cB.out 2; have la := aj cB.out 3))
 go_loopg [8] k (fun kq v8 w' => ∃ (x8_1 : Int) (x283002_1 : List Int) (u283002 : Value), v8 = .int .i64 x8_1 ∧ aa (bA.l0 kq a0 a1 a2 x8_1 a0 a1 x283002_1 = some (r1, r2, r3, r4)) ∧ aa (kq ≤ k) ∧ aa (Kd.R (Kd.int .i64) 3 w' w.heap.size (fun _ => True) u283002 x283002_1) ∧ aa (w'.heap[fK]? = some (.cells #[.int .i64 0, .int .i64 0, (.slice none 0 0), (.slice none 0 0)] 28 (0, 0))) ∧ aa (w'.heap[eo]? = some (.cells #[.int .i64 a0, .int .i64 a1, u283002, (.slice none 0 0)] 28 (0, 0))) ∧ aa (Below w.heap.size w w'))
 case atStart => exact ⟨(0), (([] : List Int)), (.slice none 0 0), (by first | rfl | (simp; done) | (simp [*]; done)), H', ⟨Nat.le_refl _⟩, ⟨by first | exact Kd.ir _ _ _ _ _ | exact Kd.mx _ _ _ _ _ | exact Kd.mu _ _ _ _ _ | exact Kd.mw _ _ _ _ _ | exact Kd.km _ _ _ _ _⟩, ⟨by (with_reducible repeat (first | refine al ?_ _ | refine ao ?_ | refine an ?_ _)); refine cT ?_ fZ.out _; (with_reducible repeat (first | refine al ?_ _ | refine ao ?_ | refine an ?_ _)); refine cT ?_ fZ.out _; (with_reducible repeat (first | refine al ?_ _ | refine ao ?_ | refine an ?_ _)); refine cT ?_ fZ.out _; (with_reducible repeat (first | refine al ?_ _ | refine ao ?_ | refine an ?_ _)); refine cT ?_ fZ.out _; (with_reducible repeat (first | refine al ?_ _ | refine ao ?_ | refine an ?_ _)); exact ef.out⟩, ⟨by (with_reducible repeat (first | refine al ?_ _ | refine ao ?_ | refine an ?_ _)); refine bF (cs := #[.int .i64 a0, .int .i64 a1, .slice none 0 0, .slice none 0 0]) ?_ 3 _ rfl; (with_reducible repeat (first | refine al ?_ _ | refine ao ?_ | refine an ?_ _)); refine bF (cs := #[.int .i64 a0, .int .i64 a1, .slice none 0 0, .slice none 0 0]) ?_ 2 _ rfl; (with_reducible repeat (first | refine al ?_ _ | refine ao ?_ | refine an ?_ _)); refine bF (cs := #[.int .i64 a0, .int .i64 0, .slice none 0 0, .slice none 0 0]) ?_ 1 _ rfl; (with_reducible repeat (first | refine al ?_ _ | refine ao ?_ | refine an ?_ _)); refine bF (cs := #[.int .i64 0, .int .i64 0, .slice none 0 0, .slice none 0 0]) ?_ 0 _ rfl; (with_reducible repeat (first | refine al ?_ _ | refine ao ?_ | refine an ?_ _)); exact cB.out⟩, ⟨by repeat (first | (with_reducible first | exact HB.out | apply ag | apply af | apply ah | refine ak ?_ jh.out | refine ak ?_ ku.out) | exact HB.out)⟩⟩
 case round =>
  clear H'
  try clear p2
  try clear c3
  try clear c6
  try clear jA
  try clear jz
  try clear lr
  try clear lq
  try clear jy
  try clear jx
  try clear lf
  try clear la
  obtain ⟨x8_1, x283002_1, u283002, rfl, HA, HK1, dt, ef, cB, HB⟩ := hrel
  cases gk with
  | zero => exact absurd HA.out (by simp [bA.l0])
  | succ k1 =>
   have H := HA.out
   clear HA
   simp only [bA.l0] at H
   by_cases c8 : x8_1 < (wrap64 (a0 * (wrap64 (a1 + 1))))
   ·rw [if_pos c8] at H
    have c8b0 : decide (x8_1 < (wrap64 (a0 * (wrap64 (a1 + 1))))) = true := decide_eq_true c8
    clear c8
    replace H := Option.bind_eq_some_iff.mp H
    obtain ⟨t283, A90, H⟩ := H
    replace H : (if (Go.bits .and .i64 a2 t283) = 0 then (bA.l0 k1 a0 a1 a2 (wrap64 (x8_1 + 1)) a0 a1 x283002_1) else (if x283002_1.length < 17592186044416 then (bA.l0 k1 a0 a1 a2 (wrap64 (x8_1 + 1)) a0 a1 (x283002_1 ++ [x8_1])) else (none))) = some (r1, r2, r3, r4) := H
    have A9 := aa.mk A90
    clear A90
    by_cases c10 : (Go.bits .and .i64 a2 t283) = 0
    ·rw [if_pos c10] at H
     have c10b0 : ((Go.bits .and .i64 a2 t283) == 0) = true := beq_iff_eq.mpr c10
     have c10b1 : ((Go.bits .and .i64 a2 t283) != 0) = false := bne_eq_false_iff_eq.mpr c10
     clear c10
     have H' := aa.mk H
     clear H
     go_wp2_with (first | ((with_reducible refine az (f := 65) rfl ?_); refine bI (some 25) rfl rfl Tryz.func65 (by kernel_rfl) rfl #[.int .i64 a0, .int .i64 a1, .bool false, .int .i64 x8_1] rfl (by (try simp only [List.map_toArray, List.map_cons, List.map_nil]); first | done | rfl | (simp only [List.length_drop, List.length_take]; rfl)) ?_; (with_reducible refine (cE.calls a0 a1 false x8_1 t283 _ A9.out).mono ?_); rintro e w' ⟨rfl, ⟨nd, rfl⟩⟩; refine ⟨_, rfl, ?_⟩))
     go_roundg k1
     case measure => have := HK1.out; omega
     case rel => exact ⟨(wrap64 (x8_1 + 1)), (x283002_1), (u283002), (by first | rfl | (simp; done) | (simp [*]; done)), H', ⟨by have := HK1.out; omega⟩, ⟨by (with_reducible repeat (first | apply Kd.aH | apply Kd.aG | apply Kd.aQ)); exact dt.out⟩, ⟨by (with_reducible repeat (first | refine al ?_ _ | refine ao ?_ | refine an ?_ _)); exact ef.out⟩, ⟨by (with_reducible repeat (first | refine al ?_ _ | refine ao ?_ | refine an ?_ _)); exact cB.out⟩, ⟨by repeat (first | (with_reducible first | exact HB.out | apply ag | apply af | apply ah | refine ak ?_ jh.out | refine ak ?_ ku.out) | exact HB.out)⟩⟩
    ·rw [if_neg c10] at H
     have c10b0 : ((Go.bits .and .i64 a2 t283) == 0) = false := beq_eq_false_iff_ne.mpr c10
     have c10b1 : ((Go.bits .and .i64 a2 t283) != 0) = true := bne_iff_ne.mpr c10
     by_cases c11 : x283002_1.length < 17592186044416
     ·rw [if_pos c11] at H
      have LMc11 := aa.mk c11
      clear c11
      obtain ⟨y284, hy284⟩ : ∃ y_ : List Int, y_ = (x283002_1 ++ [x8_1]) := ⟨_, rfl⟩
      replace H : (bA.l0 k1 a0 a1 a2 (wrap64 (x8_1 + 1)) a0 a1 y284) = some (r1, r2, r3, r4) := by first | (rw [hy284]; with_reducible exact H) | (have H2_ := (Option.bind_some _ _).symm.trans H; rw [hy284]; with_reducible exact H2_) | (have H2_ := (Option.bind_some _ _).symm.trans H; with_reducible exact H2_) | with_reducible exact H | (rw [hy284]; exact H) | exact H
      have Ny284 := aa.mk hy284
      clear hy284
      have H' := aa.mk H
      clear H
      go_wp2_with (first | ((with_reducible refine az (f := 65) rfl ?_); refine bI (some 25) rfl rfl Tryz.func65 (by kernel_rfl) rfl #[.int .i64 a0, .int .i64 a1, .bool false, .int .i64 x8_1] rfl (by (try simp only [List.map_toArray, List.map_cons, List.map_nil]); first | done | rfl | (simp only [List.length_drop, List.length_take]; rfl)) ?_; (with_reducible refine (cE.calls a0 a1 false x8_1 t283 _ A9.out).mono ?_); rintro e w' ⟨rfl, ⟨nd, rfl⟩⟩; refine ⟨_, rfl, ?_⟩; (try (rw [mK wr]; generalize hq_ : World.drewN wr _ = wr; have n0_ : aa (Kd.R (Kd.int .i64) 3 wr w.heap.size (fun _ => True) u283002 x283002_1) := ⟨by rw [← hq_]; exact (by (with_reducible repeat (first | apply Kd.aH | apply Kd.aG | apply Kd.aQ)); exact dt.out)⟩; have n1_ : aa (wr.heap[fK]? = some (.cells #[.int .i64 0, .int .i64 0, .slice none 0 0, .slice none 0 0] 28 (0, 0))) := ⟨by rw [← hq_]; exact (by (with_reducible repeat (first | refine al ?_ _ | refine ao ?_ | refine an ?_ _)); exact ef.out)⟩; have n2_ : aa (wr.heap[eo]? = some (.cells #[.int .i64 a0, .int .i64 a1, u283002, .slice none 0 0] 28 (0, 0))) := ⟨by rw [← hq_]; exact (by (with_reducible repeat (first | refine al ?_ _ | refine ao ?_ | refine an ?_ _)); exact cB.out)⟩; have n3_ : aa (Below w.heap.size w wr) := ⟨by rw [← hq_]; exact (by repeat (first | (with_reducible first | exact HB.out | apply ag | apply af | apply ah | refine ak ?_ jh.out | refine ak ?_ ku.out) | exact HB.out))⟩; clear dt ef cB HB hq_; have dt := n0_; have ef := n1_; have cB := n2_; have HB := n3_; clear n0_ n1_ n2_ n3_)); have EA := l7.out; have Ex := fZ.out; have o6 : wr.cell? ⟨eo, 0, none⟩ = some (.int .i64 a0) := (ai cB.out 0).trans rfl; have o5 : wr.cell? ⟨eo, 1, none⟩ = some (.int .i64 a1) := (ai cB.out 1).trans rfl; have sG : wr.cell? ⟨eo, 2, none⟩ = some (u283002) := (ai cB.out 2).trans rfl; have sF : wr.cell? ⟨eo, 3, none⟩ = some (.slice none 0 0) := (ai cB.out 3).trans rfl; have oY := aj cB.out 0; have oX := aj cB.out 1; have sb := aj cB.out 2; have sa := aj cB.out 3) | ((with_reducible refine cH (b := .append) (xs := #[.tmp 29, .tmp 31]) rfl ?_); at_builtin; refine Kd.eb (Kd.int .i64) (w0 := w) w.heap.size rfl (.tmp 29) (.tmp 31) 22 3 (.int .i64 0) 8 rfl Tryz.underlying22 iY rfl (by decide) (by omega) u283002 x283002_1 x8_1 [.int .i64 x8_1] (fun _ => True) (fun _ => False) rfl rfl ?aP (fun _ hk => hk.elim) ?aF ?aO ?aB ?aS ?aL ?_; (case aP => exact rfl); (case aB => exact (by repeat (first | (with_reducible first | exact HB.out | apply ag | apply af | apply ah | refine ak ?_ jh.out | refine ak ?_ ku.out) | exact HB.out))); (case aF => exact (fun _ _ => trivial)); (case aO => exact (by (with_reducible repeat (first | apply Kd.aH | apply Kd.aG | apply Kd.aQ)); exact dt.out)); (case aS => exact (aq (by repeat (first | (with_reducible first | exact HB.out | apply ag | apply af | apply ah | refine ak ?_ jh.out | refine ak ?_ ku.out) | exact HB.out)))); (case aL => have := LMc11.out; omega); intro v285 w14 ho hb hg hat; rw [← Ny284.out] at ho; have n0_ := aa.mk (eM (g := fK) (o := .cells #[.int .i64 0, .int .i64 0, .slice none 0 0, .slice none 0 0] 28 (0, 0)) (by (with_reducible repeat (first | refine al ?_ _ | refine ao ?_ | refine an ?_ _)); exact ef.out) hg (Kd.jF dt.out ef.out (by decide))); have n1_ := aa.mk (eM (g := eo) (o := .cells #[.int .i64 a0, .int .i64 a1, u283002, .slice none 0 0] 28 (0, 0)) (by (with_reducible repeat (first | refine al ?_ _ | refine ao ?_ | refine an ?_ _)); exact cB.out) hg (Kd.jF dt.out cB.out (by decide))); have n2_ := aa.mk (hb); have n3_ := aa.mk (ho); clear ef; clear cB; clear HB; clear dt; have ef := n0_; have cB := n1_; have HB := n2_; have CZ := n3_; clear n0_ n1_ n2_ n3_; clear ho hb hg hat; obtain ⟨vp, pR, sL⟩ := Kd.bE CZ.out; subst sL; have l5 : w14.cell? ⟨eo, 0, none⟩ = some (.int .i64 a0) := (ai cB.out 0).trans rfl; have l4 : w14.cell? ⟨eo, 1, none⟩ = some (.int .i64 a1) := (ai cB.out 1).trans rfl; have na : w14.cell? ⟨eo, 2, none⟩ = some (u283002) := (ai cB.out 2).trans rfl; have mZ : w14.cell? ⟨eo, 3, none⟩ = some (.slice none 0 0) := (ai cB.out 3).trans rfl; have lZ := aj cB.out 0; have lY := aj cB.out 1; have mY := aj cB.out 2; have mX := aj cB.out 3))
      go_roundg k1
      case measure => have := HK1.out; omega
      case rel => exact ⟨(wrap64 (x8_1 + 1)), (y284), (.slice vp y284.length pR), (by first | rfl | (simp; done) | (simp [*]; done)), H', ⟨by have := HK1.out; omega⟩, ⟨by (with_reducible repeat (first | apply Kd.aH | apply Kd.aG | apply Kd.aQ)); exact Kd.bV (Kd.bp (p := ⟨eo, 2, none⟩) (Kd.cU CZ.out cB.out (by decide)) (fun _ hk => hk.2) (.slice vp y284.length pR)) (fun _ hk => trivial)⟩, ⟨by (with_reducible repeat (first | refine al ?_ _ | refine ao ?_ | refine an ?_ _)); refine cT ?_ fZ.out _; (with_reducible repeat (first | refine al ?_ _ | refine ao ?_ | refine an ?_ _)); exact ef.out⟩, ⟨by (with_reducible repeat (first | refine al ?_ _ | refine ao ?_ | refine an ?_ _)); refine bF (cs := #[.int .i64 a0, .int .i64 a1, u283002, .slice none 0 0]) ?_ 2 _ rfl; (with_reducible repeat (first | refine al ?_ _ | refine ao ?_ | refine an ?_ _)); exact cB.out⟩, ⟨by repeat (first | (with_reducible first | exact HB.out | apply ag | apply af | apply ah | refine ak ?_ jh.out | refine ak ?_ ku.out) | exact HB.out)⟩⟩
     ·rw [if_neg c11] at H
      exact absurd H (by simp)
   ·rw [if_neg c8] at H
    have c8b0 : decide (x8_1 < (wrap64 (a0 * (wrap64 (a1 + 1))))) = false := decide_eq_false c8
    clear c8
    have H' := aa.mk H
    clear H
    go_wp2
    go_loopg [9] k1 (fun kq v9 w' => ∃ (x9_2 : Int) (x283003_2 : List Int) (u283003 : Value), v9 = .int .i64 x9_2 ∧ aa (bA.l1 kq a0 a1 a2 x9_2 a0 a1 x283002_1 x283003_2 = some (r1, r2, r3, r4)) ∧ aa (kq ≤ k1) ∧ aa (Kd.R (Kd.int .i64) 3 w' w.heap.size (fun k_ => some k_ ≠ (u283003 : Value).ownBlock) u283002 x283002_1) ∧ aa (Kd.R (Kd.int .i64) 3 w' w.heap.size (fun k_ => some k_ ≠ (u283002 : Value).ownBlock) u283003 x283003_2) ∧ aa (w'.heap[fK]? = some (.cells #[.int .i64 0, .int .i64 0, (.slice none 0 0), (.slice none 0 0)] 28 (0, 0))) ∧ aa (w'.heap[eo]? = some (.cells #[.int .i64 a0, .int .i64 a1, u283002, u283003] 28 (0, 0))) ∧ aa (Below w.heap.size w w'))
    case atStart => exact ⟨(0), (([] : List Int)), (.slice none 0 0), (by first | rfl | (simp; done) | (simp [*]; done)), H', ⟨Nat.le_refl _⟩, ⟨by (with_reducible repeat (first | apply Kd.aH | apply Kd.aG | apply Kd.aQ)); exact Kd.bV dt.out (fun _ hk => (by simp [Value.ownBlock]))⟩, ⟨by first | exact Kd.ir _ _ _ _ _ | exact Kd.mx _ _ _ _ _ | exact Kd.mu _ _ _ _ _ | exact Kd.mw _ _ _ _ _ | exact Kd.km _ _ _ _ _⟩, ⟨by (with_reducible repeat (first | refine al ?_ _ | refine ao ?_ | refine an ?_ _)); exact ef.out⟩, ⟨by (with_reducible repeat (first | refine al ?_ _ | refine ao ?_ | refine an ?_ _)); exact cB.out⟩, ⟨by repeat (first | (with_reducible first | exact HB.out | apply ag | apply af | apply ah | refine ak ?_ jh.out | refine ak ?_ ku.out) | exact HB.out)⟩⟩
    case round =>
     clear H'
     try clear c1
     try clear p2
     try clear c3
     try clear c6
     try clear p6
     try clear c8
     try clear c8b0
     try clear c10
     try clear c10b0
     try clear c10b1
     try clear c11
     try clear c12
     try clear o6
     try clear o5
     try clear sG
     try clear sF
     try clear l5
     try clear l4
     try clear na
     try clear mZ
     try clear jA
     try clear jz
     try clear lr
     try clear lq
     try clear oY
     try clear oX
     try clear sb
     try clear sa
     try clear lZ
     try clear lY
     try clear mY
     try clear mX
     try clear jy
     try clear jx
     try clear lf
     try clear la
     try clear p2
     obtain ⟨x9_2, x283003_2, u283003, rfl, HA, HK2, dt, ga, ef, cB, HB⟩ := hrel
     cases gk with
     | zero => exact absurd HA.out (by simp [bA.l1])
     | succ k2 =>
      have H := HA.out
      clear HA
      simp only [bA.l1] at H
      by_cases c17 : x9_2 < (wrap64 ((wrap64 (a0 + 1)) * a1))
      ·rw [if_pos c17] at H
       have c17b0 : decide (x9_2 < (wrap64 ((wrap64 (a0 + 1)) * a1))) = true := decide_eq_true c17
       clear c17
       replace H := Option.bind_eq_some_iff.mp H
       obtain ⟨t287, A180, H⟩ := H
       replace H : (if (Go.bits .and .i64 a2 t287) = 0 then (bA.l1 k2 a0 a1 a2 (wrap64 (x9_2 + 1)) a0 a1 x283002_1 x283003_2) else (if x283003_2.length < 17592186044416 then (bA.l1 k2 a0 a1 a2 (wrap64 (x9_2 + 1)) a0 a1 x283002_1 (x283003_2 ++ [x9_2])) else (none))) = some (r1, r2, r3, r4) := H
       have A18 := aa.mk A180
       clear A180
       by_cases c19 : (Go.bits .and .i64 a2 t287) = 0
       ·rw [if_pos c19] at H
        have c19b0 : ((Go.bits .and .i64 a2 t287) == 0) = true := beq_iff_eq.mpr c19
        have c19b1 : ((Go.bits .and .i64 a2 t287) != 0) = false := bne_eq_false_iff_eq.mpr c19
        clear c19
        have H' := aa.mk H
        clear H
        go_wp2_with (first | ((with_reducible refine az (f := 65) rfl ?_); refine bI (some 46) rfl rfl Tryz.func65 (by kernel_rfl) rfl #[.int .i64 a0, .int .i64 a1, .bool true, .int .i64 x9_2] rfl (by (try simp only [List.map_toArray, List.map_cons, List.map_nil]); first | done | rfl | (simp only [List.length_drop, List.length_take]; rfl)) ?_; (with_reducible refine (cE.calls a0 a1 true x9_2 t287 _ A18.out).mono ?_); rintro e w' ⟨rfl, ⟨nd, rfl⟩⟩; refine ⟨_, rfl, ?_⟩))
        go_roundg k2
        case measure => have := HK1.out; have := HK2.out; omega
        case rel => exact ⟨(wrap64 (x9_2 + 1)), (x283003_2), (u283003), (by first | rfl | (simp; done) | (simp [*]; done)), H', ⟨by have := HK1.out; have := HK2.out; omega⟩, ⟨by (with_reducible repeat (first | apply Kd.aH | apply Kd.aG | apply Kd.aQ)); exact dt.out⟩, ⟨by (with_reducible repeat (first | apply Kd.aH | apply Kd.aG | apply Kd.aQ)); exact ga.out⟩, ⟨by (with_reducible repeat (first | refine al ?_ _ | refine ao ?_ | refine an ?_ _)); exact ef.out⟩, ⟨by (with_reducible repeat (first | refine al ?_ _ | refine ao ?_ | refine an ?_ _)); exact cB.out⟩, ⟨by repeat (first | (with_reducible first | exact HB.out | apply ag | apply af | apply ah | refine ak ?_ jh.out | refine ak ?_ ku.out) | exact HB.out)⟩⟩
       ·rw [if_neg c19] at H
        have c19b0 : ((Go.bits .and .i64 a2 t287) == 0) = false := beq_eq_false_iff_ne.mpr c19
        have c19b1 : ((Go.bits .and .i64 a2 t287) != 0) = true := bne_iff_ne.mpr c19
        by_cases c20 : x283003_2.length < 17592186044416
        ·rw [if_pos c20] at H
         have LMc20 := aa.mk c20
         clear c20
         obtain ⟨y288, hy288⟩ : ∃ y_ : List Int, y_ = (x283003_2 ++ [x9_2]) := ⟨_, rfl⟩
         replace H : (bA.l1 k2 a0 a1 a2 (wrap64 (x9_2 + 1)) a0 a1 x283002_1 y288) = some (r1, r2, r3, r4) := by first | (rw [hy288]; with_reducible exact H) | (have H2_ := (Option.bind_some _ _).symm.trans H; rw [hy288]; with_reducible exact H2_) | (have H2_ := (Option.bind_some _ _).symm.trans H; with_reducible exact H2_) | with_reducible exact H | (rw [hy288]; exact H) | exact H
         have Ny288 := aa.mk hy288
         clear hy288
         have H' := aa.mk H
         clear H
         go_wp2_with (first | ((with_reducible refine az (f := 65) rfl ?_); refine bI (some 46) rfl rfl Tryz.func65 (by kernel_rfl) rfl #[.int .i64 a0, .int .i64 a1, .bool true, .int .i64 x9_2] rfl (by (try simp only [List.map_toArray, List.map_cons, List.map_nil]); first | done | rfl | (simp only [List.length_drop, List.length_take]; rfl)) ?_; (with_reducible refine (cE.calls a0 a1 true x9_2 t287 _ A18.out).mono ?_); rintro e w' ⟨rfl, ⟨nd, rfl⟩⟩; refine ⟨_, rfl, ?_⟩; (try (rw [mK wr]; generalize hq_ : World.drewN wr _ = wr; have n0_ : aa (Kd.R (Kd.int .i64) 3 wr w.heap.size (fun k_ => some k_ ≠ (u283003 : Value).ownBlock) u283002 x283002_1) := ⟨by rw [← hq_]; exact (by (with_reducible repeat (first | apply Kd.aH | apply Kd.aG | apply Kd.aQ)); exact dt.out)⟩; have n1_ : aa (Kd.R (Kd.int .i64) 3 wr w.heap.size (fun k_ => some k_ ≠ (u283002 : Value).ownBlock) u283003 x283003_2) := ⟨by rw [← hq_]; exact (by (with_reducible repeat (first | apply Kd.aH | apply Kd.aG | apply Kd.aQ)); exact ga.out)⟩; have n2_ : aa (wr.heap[fK]? = some (.cells #[.int .i64 0, .int .i64 0, .slice none 0 0, .slice none 0 0] 28 (0, 0))) := ⟨by rw [← hq_]; exact (by (with_reducible repeat (first | refine al ?_ _ | refine ao ?_ | refine an ?_ _)); exact ef.out)⟩; have n3_ : aa (wr.heap[eo]? = some (.cells #[.int .i64 a0, .int .i64 a1, u283002, u283003] 28 (0, 0))) := ⟨by rw [← hq_]; exact (by (with_reducible repeat (first | refine al ?_ _ | refine ao ?_ | refine an ?_ _)); exact cB.out)⟩; have n4_ : aa (Below w.heap.size w wr) := ⟨by rw [← hq_]; exact (by repeat (first | (with_reducible first | exact HB.out | apply ag | apply af | apply ah | refine ak ?_ jh.out | refine ak ?_ ku.out) | exact HB.out))⟩; clear dt ga ef cB HB hq_; have dt := n0_; have ga := n1_; have ef := n2_; have cB := n3_; have HB := n4_; clear n0_ n1_ n2_ n3_ n4_)); have Ez := l7.out; have Ew := fZ.out; have wC : wr.cell? ⟨eo, 0, none⟩ = some (.int .i64 a0) := (ai cB.out 0).trans rfl; have wB : wr.cell? ⟨eo, 1, none⟩ = some (.int .i64 a1) := (ai cB.out 1).trans rfl; have wA : wr.cell? ⟨eo, 2, none⟩ = some (u283002) := (ai cB.out 2).trans rfl; have wz : wr.cell? ⟨eo, 3, none⟩ = some (u283003) := (ai cB.out 3).trans rfl; have vS := aj cB.out 0; have vR := aj cB.out 1; have vQ := aj cB.out 2; have vP := aj cB.out 3) | ((with_reducible refine cH (b := .append) (xs := #[.tmp 50, .tmp 52]) rfl ?_); at_builtin; refine Kd.eb (Kd.int .i64) (w0 := w) w.heap.size rfl (.tmp 50) (.tmp 52) 22 3 (.int .i64 0) 8 rfl Tryz.underlying22 iY rfl (by decide) (by omega) u283003 x283003_2 x9_2 [.int .i64 x9_2] (fun k_ => some k_ ≠ (u283002 : Value).ownBlock) (fun _ => False) rfl rfl ?aP (fun _ hk => hk.elim) ?aF ?aO ?aB ?aS ?aL ?_; (case aP => exact rfl); (case aB => exact (by repeat (first | (with_reducible first | exact HB.out | apply ag | apply af | apply ah | refine ak ?_ jh.out | refine ak ?_ ku.out) | exact HB.out))); (case aF => exact (fun k_ hk => Kd.u0 (Kd.ko (by (with_reducible repeat (first | apply Kd.aH | apply Kd.aG | apply Kd.aQ)); exact dt.out)) k_ hk)); (case aO => exact (by (with_reducible repeat (first | apply Kd.aH | apply Kd.aG | apply Kd.aQ)); exact ga.out)); (case aS => exact (aq (by repeat (first | (with_reducible first | exact HB.out | apply ag | apply af | apply ah | refine ak ?_ jh.out | refine ak ?_ ku.out) | exact HB.out)))); (case aL => have := LMc20.out; omega); intro v289 w23 ho hb hg hat; rw [← Ny288.out] at ho; have n0_ := aa.mk (Kd.sZ (ok := (fun _ => True)) (by (with_reducible repeat (first | apply Kd.aH | apply Kd.aG | apply Kd.aQ)); exact Kd.bV dt.out (fun _ hk => ⟨trivial, hk⟩)) hg hat); have n1_ := aa.mk (eM (g := fK) (o := .cells #[.int .i64 0, .int .i64 0, .slice none 0 0, .slice none 0 0] 28 (0, 0)) (by (with_reducible repeat (first | refine al ?_ _ | refine ao ?_ | refine an ?_ _)); exact ef.out) hg (Kd.jF ga.out ef.out (by decide))); have n2_ := aa.mk (eM (g := eo) (o := .cells #[.int .i64 a0, .int .i64 a1, u283002, u283003] 28 (0, 0)) (by (with_reducible repeat (first | refine al ?_ _ | refine ao ?_ | refine an ?_ _)); exact cB.out) hg (Kd.jF ga.out cB.out (by decide))); have n3_ := aa.mk (hb); have n4_ := aa.mk (ho); clear dt; clear ef; clear cB; clear HB; clear ga; have dt := n0_; have ef := n1_; have cB := n2_; have HB := n3_; have CY := n4_; clear n0_ n1_ n2_ n3_ n4_; clear ho hb hg hat; obtain ⟨Ej, DY, eo24⟩ := Kd.bE CY.out; subst eo24; have hcz25_0 : w23.cell? ⟨eo, 0, none⟩ = some (.int .i64 a0) := (ai cB.out 0).trans rfl; have hcz25_1 : w23.cell? ⟨eo, 1, none⟩ = some (.int .i64 a1) := (ai cB.out 1).trans rfl; have hcz25_2 : w23.cell? ⟨eo, 2, none⟩ = some (u283002) := (ai cB.out 2).trans rfl; have hcz25_3 : w23.cell? ⟨eo, 3, none⟩ = some (u283003) := (ai cB.out 3).trans rfl; have GX := aj cB.out 0; have GW := aj cB.out 1; have GV := aj cB.out 2; have GU := aj cB.out 3))
         go_roundg k2
         case measure => have := HK1.out; have := HK2.out; omega
         case rel => exact ⟨(wrap64 (x9_2 + 1)), (y288), (.slice Ej y288.length DY), (by first | rfl | (simp; done) | (simp [*]; done)), H', ⟨by have := HK1.out; have := HK2.out; omega⟩, ⟨by (with_reducible repeat (first | apply Kd.aH | apply Kd.aG | apply Kd.aQ)); exact Kd.bV (Kd.bp (p := ⟨eo, 3, none⟩) (Kd.cU dt.out cB.out (by decide)) (fun _ hk => hk.2) (.slice Ej y288.length DY)) (fun _ hk => hk.1.2)⟩, ⟨by (with_reducible repeat (first | apply Kd.aH | apply Kd.aG | apply Kd.aQ)); exact Kd.bV (Kd.bp (p := ⟨eo, 3, none⟩) (Kd.cU CY.out cB.out (by decide)) (fun _ hk => hk.2) (.slice Ej y288.length DY)) (fun _ hk => hk.1)⟩, ⟨by (with_reducible repeat (first | refine al ?_ _ | refine ao ?_ | refine an ?_ _)); refine cT ?_ fZ.out _; (with_reducible repeat (first | refine al ?_ _ | refine ao ?_ | refine an ?_ _)); exact ef.out⟩, ⟨by (with_reducible repeat (first | refine al ?_ _ | refine ao ?_ | refine an ?_ _)); refine bF (cs := #[.int .i64 a0, .int .i64 a1, u283002, u283003]) ?_ 3 _ rfl; (with_reducible repeat (first | refine al ?_ _ | refine ao ?_ | refine an ?_ _)); exact cB.out⟩, ⟨by repeat (first | (with_reducible first | exact HB.out | apply ag | apply af | apply ah | refine ak ?_ jh.out | refine ak ?_ ku.out) | exact HB.out)⟩⟩
        ·rw [if_neg c20] at H
         exact absurd H (by simp)
      ·rw [if_neg c17] at H
       have c17b0 : decide (x9_2 < (wrap64 ((wrap64 (a0 + 1)) * a1))) = false := decide_eq_false c17
       clear c17
       simp only [Option.some.injEq, Prod.mk.injEq] at H
       obtain ⟨rfl, rfl, rfl, rfl⟩ := H
       have Ey := l7.out
       have Eu := fZ.out
       have BQ : wr.cell? ⟨eo, 0, none⟩ = some (.int .i64 a0) := (ai cB.out 0).trans rfl
       have BP : wr.cell? ⟨eo, 1, none⟩ = some (.int .i64 a1) := (ai cB.out 1).trans rfl
       have BO : wr.cell? ⟨eo, 2, none⟩ = some (u283002) := (ai cB.out 2).trans rfl
       have BN : wr.cell? ⟨eo, 3, none⟩ = some (u283003) := (ai cB.out 3).trans rfl
       have Bu := aj cB.out 0
       have Bs := aj cB.out 1
       have Br := aj cB.out 2
       have Bq := aj cB.out 3
       have wy : wr.cell? ⟨fK, 0, none⟩ = some (.int .i64 0) := (ai ef.out 0).trans rfl
       have wx : wr.cell? ⟨fK, 1, none⟩ = some (.int .i64 0) := (ai ef.out 1).trans rfl
       have wv : wr.cell? ⟨fK, 2, none⟩ = some (.slice none 0 0) := (ai ef.out 2).trans rfl
       have wu : wr.cell? ⟨fK, 3, none⟩ = some (.slice none 0 0) := (ai ef.out 3).trans rfl
       have vO := aj ef.out 0
       have vN := aj ef.out 1
       have vM := aj ef.out 2
       have vL := aj ef.out 3
       obtain ⟨CN, Cl, eo29⟩ := Kd.bE dt.out
       subst eo29
       obtain ⟨Eh, DW, eo30⟩ := Kd.bE ga.out
       subst eo30
       go_wp2
       refine bodyPost_ret (results_cell_row rfl _ _ fK 28 #[.int .i64 a0, .int .i64 a1, .slice CN x283002_1.length Cl, .slice Eh x283003_2.length DW] (0, 0) _ rfl (by (with_reducible repeat (first | refine al ?_ _ | refine ao ?_ | refine an ?_ _)); refine bF (cs := #[.int .i64 a0, .int .i64 a1, .slice CN x283002_1.length Cl, .slice none 0 0]) ?_ 3 _ rfl; (with_reducible repeat (first | refine al ?_ _ | refine ao ?_ | refine an ?_ _)); refine bF (cs := #[.int .i64 a0, .int .i64 a1, .slice none 0 0, .slice none 0 0]) ?_ 2 _ rfl; (with_reducible repeat (first | refine al ?_ _ | refine ao ?_ | refine an ?_ _)); refine bF (cs := #[.int .i64 a0, .int .i64 0, .slice none 0 0, .slice none 0 0]) ?_ 1 _ rfl; (with_reducible repeat (first | refine al ?_ _ | refine ao ?_ | refine an ?_ _)); refine bF (cs := #[.int .i64 0, .int .i64 0, .slice none 0 0, .slice none 0 0]) ?_ 0 _ rfl; (with_reducible repeat (first | refine al ?_ _ | refine ao ?_ | refine an ?_ _)); exact ef.out) Tryz.underlying28 rfl (by kernel_rfl)) rfl ?_
       exact ⟨_, _, by first | rfl | (simp [av, au] <;> rfl) | (simp [*, av, au] <;> rfl), by (with_reducible repeat (first | apply Kd.aH | apply Kd.aG | apply Kd.aQ)); exact Kd.bV (Kd.bp (p := ⟨fK, 3, none⟩) (Kd.bp (p := ⟨fK, 2, none⟩) (Kd.bp (p := ⟨fK, 1, none⟩) (Kd.bp (p := ⟨fK, 0, none⟩) (Kd.cU dt.out ef.out (by decide)) (fun _ hk => hk.2) (.int .i64 a0)) (fun _ hk => hk.2) (.int .i64 a1)) (fun _ hk => hk.2) (.slice CN x283002_1.length Cl)) (fun _ hk => hk.2) (.slice Eh x283003_2.length DW)) (fun _ hk => hk.1), by (with_reducible repeat (first | apply Kd.aH | apply Kd.aG | apply Kd.aQ)); exact Kd.bV (Kd.bp (p := ⟨fK, 3, none⟩) (Kd.bp (p := ⟨fK, 2, none⟩) (Kd.bp (p := ⟨fK, 1, none⟩) (Kd.bp (p := ⟨fK, 0, none⟩) (Kd.cU ga.out ef.out (by decide)) (fun _ hk => hk.2) (.int .i64 a0)) (fun _ hk => hk.2) (.int .i64 a1)) (fun _ hk => hk.2) (.slice CN x283002_1.length Cl)) (fun _ hk => hk.2) (.slice Eh x283003_2.length DW)) (fun _ hk => hk.1), by repeat (first | (with_reducible first | exact HB.out | apply ag | apply af | apply ah | refine ak ?_ jh.out | refine ak ?_ ku.out) | exact HB.out)⟩
end Go.Proofs.YtmjlmloomkodpaaGreatDoor.PA
namespace Go.Proofs.YtmjlmloomkodpaaGreatDoor.PA
open Go.RowKit Go.Proofs.ae.aw Go.Proofs.ae.aJ Go.Proofs.ae.aN
attribute [local go_sem] bo bm bC bB a6 aZ bn bj
set_option linter.unusedVariables false
set_option linter.unusedSimpArgs false
def bH.j0 : Nat → List Int → Bool → Int → Int → List Int → List Int → Int → Bool → Int → Option (Int × Int × List Int × List Int × Bool)
 | 0, _, _, _, _, _, _, _, _, _ => none
 | k + 1, x4, x19, x308000, x308001, x308002, x308003, x308004, x308005, x308006 => if x19 = true then (some (0, 0, ([] : List Int), ([] : List Int), false)) else ((dj.f k x4).bind fun bt313 => ((bQ.f k x308000 x308001 x308002 x308003).bind fun t315 => ((bA.f k x308000 x308001 (Go.bits .andNot .i64 t315 bt313.2)).bind fun bt316 => (some (bt316.1, bt316.2.1, bt316.2.2.1, bt316.2.2.2, true)))))
def bH.f (k : Nat) (a0_0 : Int) (a0_1 : Int) (l0_2 : List Int) (l0_3 : List Int) (a0_4 : Int) (a0_5 : Bool) (a0_6 : Int) : Option (Int × Int × List Int × List Int × Bool) := (eZ.f k a0_0 a0_1 l0_2 l0_3 a0_4 a0_5 a0_6).bind fun bt309 => (if bt309.2 = true then (bH.j0 k bt309.1 ((bt309.1.length : Int) == 0) a0_0 a0_1 l0_2 l0_3 a0_4 a0_5 a0_6) else (bH.j0 k bt309.1 true a0_0 a0_1 l0_2 l0_3 a0_4 a0_5 a0_6))
def bH.T5 : Bool × List (List Nat × List Nat) := (true, [([], []), ([0], [0]), ([1], [1]), ([], []), ([3], [3]), ([4], [4]), ([], []), ([6], [6]), ([7], [7]), ([], []), ([8, 9], [8, 9]), ([2, 5, 10, 8], [2, 5, 10]), ([11, 11, 0, 1, 2, 3, 4, 5, 6, 7, 8, 9, 10, 11], [11]), ([12, 0, 1, 2, 3, 4, 5, 6, 7, 8, 9, 10, 11, 12], [])])
def bH.B5 : List Nat := [0, 1, 3, 0, 8, 24, 0, 64, 192, 0, 960, 2047, 4095, 8191]
theorem bH.Di : iw .any (opsOf Tryz.f18 5) = bH.T5 := by kernel_rfl
theorem bH.zz : gL bH.T5.2 bH.B5 = true := by kernel_rfl
set_option maxHeartbeats 8000000 in
set_option maxRecDepth 100000 in
theorem bH.calls (k : Nat) (a0_0 : Int) (a0_1 : Int) (A0_2 : Option Addr) (c0_2 : Nat) (l0_2 : List Int) (A0_3 : Option Addr) (c0_3 : Nat) (l0_3 : List Int) (a0_4 : Int) (a0_5 : Bool) (a0_6 : Int) (r1 : Int) (r2 : Int) (r3 : List Int) (r4 : List Int) (r5 : Bool) (w : World) (ca : Kd.C (Kd.int .i64) w A0_2 l0_2.length l0_2) (bX : l0_2.length ≤ c0_2) (b0 : Kd.C (Kd.int .i64) w A0_3 l0_3.length l0_3) (bW : l0_3.length ≤ c0_3) (h : bH.f k a0_0 a0_1 l0_2 l0_3 a0_4 a0_5 a0_6 = some (r1, r2, r3, r4, r5)) :
  Calls Tryz.prog 18 #[.agg #[.int .i64 a0_0, .int .i64 a0_1, .slice A0_2 l0_2.length c0_2, .slice A0_3 l0_3.length c0_3, .int .i64 a0_4, .bool a0_5, .int .i64 a0_6]] w fun e w' => ∃ v2_ v3_ : Value, e = .returned (.tuple #[.agg #[.int .i64 r1, .int .i64 r2, v2_, v3_], .bool r5]) ∧ Kd.R (Kd.int .i64) 3 w' w.heap.size (fun k_ => some k_ ≠ (v3_ : Value).ownBlock) v2_ r3 ∧ Kd.R (Kd.int .i64) 3 w' w.heap.size (fun k_ => some k_ ≠ (v2_ : Value).ownBlock) v3_ r4 ∧ Below w.heap.size w w' := by
 have hu32 := Tryz.underlying32
 have hu28 := Tryz.underlying28
 have cy := aa.mk ca
 have cD := aa.mk bX
 clear ca bX
 have cF := aa.mk b0
 have cK := aa.mk bW
 clear b0 bW
 have HB := aa.mk (Below.refl w.heap.size w)
 have H : ((eZ.f k a0_0 a0_1 l0_2 l0_3 a0_4 a0_5 a0_6).bind fun bt309 => (if bt309.2 = true then (bH.j0 k bt309.1 ((bt309.1.length : Int) == 0) a0_0 a0_1 l0_2 l0_3 a0_4 a0_5 a0_6) else (bH.j0 k bt309.1 true a0_0 a0_1 l0_2 l0_3 a0_4 a0_5 a0_6))) = some (r1, r2, r3, r4, r5) := h
 clear h
 replace H := Option.bind_eq_some_iff.mp H
 obtain ⟨⟨t309, t312⟩, A20, H⟩ := H
 replace H : (if t312 = true then (bH.j0 k t309 ((t309.length : Int) == 0) a0_0 a0_1 l0_2 l0_3 a0_4 a0_5 a0_6) else (bH.j0 k t309 true a0_0 a0_1 l0_2 l0_3 a0_4 a0_5 a0_6)) = some (r1, r2, r3, r4, r5) := H
 have A2 := aa.mk A20
 clear A20
 have HC3 := aa.mk H
 clear H
 go_enter Tryz.func18, Tryz.ntmps18
 go_upto_region 2 with (first | ((with_reducible refine aV (N := 1) rfl ?_); (try (refine kK (by rfl) ?_; dsimp only)); refine aM ?hg (N := 1) ?hd (cs := #[.int .i64 a0_0, .int .i64 a0_1, .slice A0_2 l0_2.length c0_2, .slice A0_3 l0_3.length c0_3, .int .i64 a0_4, .bool a0_5, .int .i64 a0_6]) (t := 32) ?hr ?_; (case hd => rfl); (case hg => rfl); (case hr => first | (go_simp; done) | (go_simp; rfl)); intro fJ hg w4 hbox hb; have n0_ := aa.mk (ar (by repeat (first | (with_reducible first | exact HB.out | apply ag | apply af | apply ah) | exact HB.out)) hb); have n1_ := aa.mk (hbox); have n2_ := aa.mk ((by rw [hg]; exact (aq (by repeat (first | (with_reducible first | exact HB.out | apply ag | apply af | apply ah) | exact HB.out))) : w.heap.size ≤ fJ)); have n3_ := aa.mk ((by rw [hg]; exact (aq (by repeat (first | (with_reducible first | exact HB.out | apply ag | apply af | apply ah) | exact HB.out))) : w.heap.size ≤ fJ)); clear HB; have HB := n0_; have db := n1_; have GW307 := n2_; have j4 := n3_; clear n0_ n1_ n2_ n3_; clear hb hbox hg) | ((with_reducible refine aV (N := 2) rfl ?_); (try (refine kK (by rfl) ?_; dsimp only)); refine aM ?hg (N := 2) ?hd (cs := #[.int .i64 0, .int .i64 0, .slice none 0 0, .slice none 0 0]) (t := 28) ?hr ?_; (case hd => rfl); (case hg => rfl); (case hr => first | (go_simp; done) | (go_simp; rfl)); intro dh hg w5 hbox hb; have n0_ := aa.mk (aD (g := fJ) (o := .cells #[.int .i64 a0_0, .int .i64 a0_1, .slice A0_2 l0_2.length c0_2, .slice A0_3 l0_3.length c0_3, .int .i64 a0_4, .bool a0_5, .int .i64 a0_6] 32 (0, 0)) (by (with_reducible repeat (first | refine al ?_ _ | refine ao ?_ | refine an ?_ _)); exact db.out) hb); have n1_ := aa.mk (ar (by repeat (first | (with_reducible first | exact HB.out | apply ag | apply af | apply ah | refine ak ?_ j4.out) | exact HB.out)) hb); have n2_ := aa.mk (hbox); have n3_ := aa.mk ((by rw [hg]; exact (aq (by repeat (first | (with_reducible first | exact HB.out | apply ag | apply af | apply ah | refine ak ?_ j4.out) | exact HB.out))) : w.heap.size ≤ dh)); have n4_ := aa.mk ((by rw [hg]; exact (aq (by repeat (first | (with_reducible first | exact HB.out | apply ag | apply af | apply ah | refine ak ?_ j4.out) | exact HB.out))) : w.heap.size ≤ dh)); have n5_ := aa.mk ((by rw [hg]; exact Nat.ne_of_lt (a7 (g := fJ) (o := .cells #[.int .i64 a0_0, .int .i64 a0_1, .slice A0_2 l0_2.length c0_2, .slice A0_3 l0_3.length c0_3, .int .i64 a0_4, .bool a0_5, .int .i64 a0_6] 32 (0, 0)) (by (with_reducible repeat (first | refine al ?_ _ | refine ao ?_ | refine an ?_ _)); exact db.out)) : fJ ≠ dh)); have n6_ := aa.mk ((by rw [hg]; exact Nat.ne_of_gt (a7 (g := fJ) (o := .cells #[.int .i64 a0_0, .int .i64 a0_1, .slice A0_2 l0_2.length c0_2, .slice A0_3 l0_3.length c0_3, .int .i64 a0_4, .bool a0_5, .int .i64 a0_6] 32 (0, 0)) (by (with_reducible repeat (first | refine al ?_ _ | refine ao ?_ | refine an ?_ _)); exact db.out)) : dh ≠ fJ)); clear db; clear HB; have db := n0_; have HB := n1_; have ed := n2_; have GW308 := n3_; have lL := n4_; have cr := n5_; have jo := n6_; clear n0_ n1_ n2_ n3_ n4_ n5_ n6_; clear hb hbox hg; have hnb6 := cr.out; have hnc6 := jo.out; have jA : w5.cell? ⟨fJ, 0, none⟩ = some (.int .i64 a0_0) := (ai db.out 0).trans rfl; have jz : w5.cell? ⟨fJ, 1, none⟩ = some (.int .i64 a0_1) := (ai db.out 1).trans rfl; have lr : w5.cell? ⟨fJ, 2, none⟩ = some (.slice A0_2 l0_2.length c0_2) := (ai db.out 2).trans rfl; have lq : w5.cell? ⟨fJ, 3, none⟩ = some (.slice A0_3 l0_3.length c0_3) := (ai db.out 3).trans rfl; have uV : w5.cell? ⟨fJ, 4, none⟩ = some (.int .i64 a0_4) := (ai db.out 4).trans rfl; have uU : w5.cell? ⟨fJ, 5, none⟩ = some (.bool a0_5) := (ai db.out 5).trans rfl; have zc : w5.cell? ⟨fJ, 6, none⟩ = some (.int .i64 a0_6) := (ai db.out 6).trans rfl; have jy := aj db.out 0; have jx := aj db.out 1; have lf := aj db.out 2; have la := aj db.out 3; have uQ := aj db.out 4; have uP := aj db.out 5; have zb := aj db.out 6) | ((with_reducible refine az (f := 34) rfl ?_); refine bI (some 10) rfl rfl Tryz.func34 (by kernel_rfl) rfl #[.agg #[.int .i64 a0_0, .int .i64 a0_1, .slice A0_2 l0_2.length c0_2, .slice A0_3 l0_3.length c0_3, .int .i64 a0_4, .bool a0_5, .int .i64 a0_6]] rfl (by (try simp only [List.map_toArray, List.map_cons, List.map_nil]); first | done | rfl | (simp only [List.length_drop, List.length_take]; rfl)) ?_; (with_reducible refine (eZ.calls k a0_0 a0_1 _ _ l0_2 _ _ l0_3 a0_4 a0_5 a0_6 t309 t312 _ ?side1 ?side2 ?side3 ?side4 A2.out).mono ?_); (case side1 => repeat (first | exact (Kd.ax cy.out HB.out) | (with_reducible refine Kd.aX ?_ _) | (with_reducible refine Kd.aW ?_ _) | (with_reducible refine Kd.bh ?_))); (case side2 => exact cD.out); (case side3 => repeat (first | exact (Kd.ax cF.out HB.out) | (with_reducible refine Kd.aX ?_ _) | (with_reducible refine Kd.aW ?_ _) | (with_reducible refine Kd.bh ?_))); (case side4 => exact cK.out); rintro e w8 ⟨v310, rfl, ho0, hb⟩; refine ⟨_, rfl, ?_⟩; have n0_ := aa.mk (Kd.cW ho0 (aq (by repeat (first | (with_reducible first | exact HB.out | apply ag | apply af | apply ah | refine ak ?_ j4.out | refine ak ?_ lL.out) | exact HB.out)))); have n1_ := aa.mk (aD (g := fJ) (o := .cells #[.int .i64 a0_0, .int .i64 a0_1, .slice A0_2 l0_2.length c0_2, .slice A0_3 l0_3.length c0_3, .int .i64 a0_4, .bool a0_5, .int .i64 a0_6] 32 (0, 0)) (by (with_reducible repeat (first | refine al ?_ _ | refine ao ?_ | refine an ?_ _)); exact db.out) hb); have n2_ := aa.mk (aD (g := dh) (o := .cells #[.int .i64 0, .int .i64 0, .slice none 0 0, .slice none 0 0] 28 (0, 0)) (by (with_reducible repeat (first | refine al ?_ _ | refine ao ?_ | refine an ?_ _)); exact ed.out) hb); have n3_ := aa.mk (ar (by repeat (first | (with_reducible first | exact HB.out | apply ag | apply af | apply ah | refine ak ?_ j4.out | refine ak ?_ lL.out) | exact HB.out)) hb); clear db; clear ed; clear HB; have zP := n0_; have db := n1_; have ed := n2_; have HB := n3_; clear n0_ n1_ n2_ n3_; (try clear hb); (try clear hb2); (try clear hk); (try clear hi); (try clear ho0)))
 (try simp only [Act.put, List.setIfInBounds_toArray, List.set_cons_zero, List.set_cons_succ])
 go_cut [19] (fun v19 wc => ∃ (kq : Nat) (x19_2 : Bool), v19 = .bool x19_2 ∧ aa (bH.j0 kq t309 x19_2 a0_0 a0_1 l0_2 l0_3 a0_4 a0_5 a0_6 = some (r1, r2, r3, r4, r5)) ∧ aa (kq ≤ k) ∧ aa (Kd.R (Kd.int .i64) 3 wc w.heap.size (fun _ => True) v310 t309) ∧ aa (wc.heap[fJ]? = some (.cells #[.int .i64 a0_0, .int .i64 a0_1, (.slice A0_2 l0_2.length c0_2), (.slice A0_3 l0_3.length c0_3), .int .i64 a0_4, .bool a0_5, .int .i64 a0_6] 32 (0, 0))) ∧ aa (wc.heap[dh]? = some (.cells #[.int .i64 0, .int .i64 0, (.slice none 0 0), (.slice none 0 0)] 28 (0, 0))) ∧ aa (Below w.heap.size w wc))
 case first =>
  have H := HC3.out
  clear HC3
  by_cases c9 : t312 = true
  ·subst c9
   have H1 : (bH.j0 k t309 ((t309.length : Int) == 0) a0_0 a0_1 l0_2 l0_3 a0_4 a0_5 a0_6) = some (r1, r2, r3, r4, r5) := by rw [if_pos rfl] at H; exact H
   clear H
   have H := H1
   clear H1
   have H' := aa.mk H
   clear H
   obtain ⟨Ao10, co10, eo10⟩ := Kd.bE zP.out
   subst eo10
   go_wp2
   go_meet
   case rel => exact ⟨_, (((t309.length : Int) == 0)), (by first | rfl | (simp; done) | (simp [*]; done)), H', ⟨by first | omega | exact Nat.le_refl _⟩, ⟨by (with_reducible repeat (first | apply Kd.aH | apply Kd.aG | apply Kd.aQ)); exact zP.out⟩, ⟨by (with_reducible repeat (first | refine al ?_ _ | refine ao ?_ | refine an ?_ _)); exact db.out⟩, ⟨by (with_reducible repeat (first | refine al ?_ _ | refine ao ?_ | refine an ?_ _)); exact ed.out⟩, ⟨by repeat (first | (with_reducible first | exact HB.out | apply ag | apply af | apply ah | refine ak ?_ j4.out | refine ak ?_ lL.out) | exact HB.out)⟩⟩
  ·replace c9 := Bool.eq_false_iff.mpr c9
   subst c9
   have H1 : (bH.j0 k t309 true a0_0 a0_1 l0_2 l0_3 a0_4 a0_5 a0_6) = some (r1, r2, r3, r4, r5) := by rw [if_neg (show ¬ (false = true) by decide)] at H; exact H
   clear H
   have H := H1
   clear H1
   have H' := aa.mk H
   clear H
   go_wp2
   go_meet
   case rel => exact ⟨_, (true), (by first | rfl | (simp; done) | (simp [*]; done)), H', ⟨by first | omega | exact Nat.le_refl _⟩, ⟨by (with_reducible repeat (first | apply Kd.aH | apply Kd.aG | apply Kd.aQ)); exact zP.out⟩, ⟨by (with_reducible repeat (first | refine al ?_ _ | refine ao ?_ | refine an ?_ _)); exact db.out⟩, ⟨by (with_reducible repeat (first | refine al ?_ _ | refine ao ?_ | refine an ?_ _)); exact ed.out⟩, ⟨by repeat (first | (with_reducible first | exact HB.out | apply ag | apply af | apply ah | refine ak ?_ j4.out | refine ak ?_ lL.out) | exact HB.out)⟩⟩
 case rest =>
  clear HC3
  try clear c1
  try clear p2
  try clear c3
  try clear c6
  try clear c9
  try clear jA
  try clear jz
  try clear lr
  try clear lq
  try clear uV
  try clear uU
  try clear zc
  try clear jy
  try clear jx
  try clear lf
  try clear la
  try clear uQ
  try clear uP
  try clear zb
  obtain ⟨kq, x19_2, rfl, HA, HJ2, kX, db, ed, HB⟩ := hcut
  cases kq with
  | zero => exact absurd HA.out (by simp [bH.j0])
  | succ kj2 =>
   have H := HA.out
   clear HA
   simp only [bH.j0] at H
   by_cases c11 : x19_2 = true
   ·subst c11
    have H1 : (some (0, 0, ([] : List Int), ([] : List Int), false)) = some (r1, r2, r3, r4, r5) := by rw [if_pos rfl] at H; exact H
    clear H
    have H := H1
    clear H1
    simp only [Option.some.injEq, Prod.mk.injEq] at H
    obtain ⟨rfl, rfl, rfl, rfl, rfl⟩ := H
    have EA := jo.out
    have Ex := cr.out
    have o6 : wc.cell? ⟨dh, 0, none⟩ = some (.int .i64 0) := (ai ed.out 0).trans rfl
    have o5 : wc.cell? ⟨dh, 1, none⟩ = some (.int .i64 0) := (ai ed.out 1).trans rfl
    have sG : wc.cell? ⟨dh, 2, none⟩ = some (.slice none 0 0) := (ai ed.out 2).trans rfl
    have sF : wc.cell? ⟨dh, 3, none⟩ = some (.slice none 0 0) := (ai ed.out 3).trans rfl
    have oY := aj ed.out 0
    have oX := aj ed.out 1
    have sb := aj ed.out 2
    have sa := aj ed.out 3
    go_wp2
    refine bodyPost_ret (ky rfl _ _ dh 28 #[.int .i64 0, .int .i64 0, .slice none 0 0, .slice none 0 0] (0, 0) _ rfl (by (with_reducible repeat (first | refine al ?_ _ | refine ao ?_ | refine an ?_ _)); refine bF (cs := #[.int .i64 0, .int .i64 0, .slice none 0 0, .slice none 0 0]) ?_ 3 _ rfl; (with_reducible repeat (first | refine al ?_ _ | refine ao ?_ | refine an ?_ _)); refine bF (cs := #[.int .i64 0, .int .i64 0, .slice none 0 0, .slice none 0 0]) ?_ 2 _ rfl; (with_reducible repeat (first | refine al ?_ _ | refine ao ?_ | refine an ?_ _)); refine bF (cs := #[.int .i64 0, .int .i64 0, .slice none 0 0, .slice none 0 0]) ?_ 1 _ rfl; (with_reducible repeat (first | refine al ?_ _ | refine ao ?_ | refine an ?_ _)); refine bF (cs := #[.int .i64 0, .int .i64 0, .slice none 0 0, .slice none 0 0]) ?_ 0 _ rfl; (with_reducible repeat (first | refine al ?_ _ | refine ao ?_ | refine an ?_ _)); exact ed.out) Tryz.underlying28 rfl (by kernel_rfl)) rfl ?_
    exact ⟨_, _, by first | rfl | (simp [av, au] <;> rfl) | (simp [*, av, au] <;> rfl), by first | exact Kd.ir _ _ _ _ _ | exact Kd.mx _ _ _ _ _ | exact Kd.mu _ _ _ _ _ | exact Kd.mw _ _ _ _ _ | exact Kd.km _ _ _ _ _, by first | exact Kd.ir _ _ _ _ _ | exact Kd.mx _ _ _ _ _ | exact Kd.mu _ _ _ _ _ | exact Kd.mw _ _ _ _ _ | exact Kd.km _ _ _ _ _, by repeat (first | (with_reducible first | exact HB.out | apply ag | apply af | apply ah | refine ak ?_ j4.out | refine ak ?_ lL.out) | exact HB.out)⟩
   ·replace c11 := Bool.eq_false_iff.mpr c11
    subst c11
    have H1 : ((dj.f kj2 t309).bind fun bt313 => ((bQ.f kj2 a0_0 a0_1 l0_2 l0_3).bind fun t315 => ((bA.f kj2 a0_0 a0_1 (Go.bits .andNot .i64 t315 bt313.2)).bind fun bt316 => (some (bt316.1, bt316.2.1, bt316.2.2.1, bt316.2.2.2, true))))) = some (r1, r2, r3, r4, r5) := by rw [if_neg (show ¬ (false = true) by decide)] at H; exact H
    clear H
    have H := H1
    clear H1
    replace H := Option.bind_eq_some_iff.mp H
    obtain ⟨⟨t313, t314⟩, A140, H⟩ := H
    replace H : ((bQ.f kj2 a0_0 a0_1 l0_2 l0_3).bind fun t315 => ((bA.f kj2 a0_0 a0_1 (Go.bits .andNot .i64 t315 t314)).bind fun bt316 => (some (bt316.1, bt316.2.1, bt316.2.2.1, bt316.2.2.2, true)))) = some (r1, r2, r3, r4, r5) := H
    have A14 := aa.mk A140
    clear A140
    replace H := Option.bind_eq_some_iff.mp H
    obtain ⟨t315, A150, H⟩ := H
    replace H : ((bA.f kj2 a0_0 a0_1 (Go.bits .andNot .i64 t315 t314)).bind fun bt316 => (some (bt316.1, bt316.2.1, bt316.2.2.1, bt316.2.2.2, true))) = some (r1, r2, r3, r4, r5) := H
    have A15 := aa.mk A150
    clear A150
    replace H := Option.bind_eq_some_iff.mp H
    obtain ⟨⟨t316, t317, t318, t321⟩, A160, H⟩ := H
    replace H : (some (t316, t317, t318, t321, true)) = some (r1, r2, r3, r4, r5) := H
    have A16 := aa.mk A160
    clear A160
    simp only [Option.some.injEq, Prod.mk.injEq] at H
    obtain ⟨rfl, rfl, rfl, rfl, rfl⟩ := H
    obtain ⟨Gn, EL, eo17⟩ := Kd.bE kX.out
    subst eo17
    try go_wp2_with (first | ((with_reducible refine az (f := 35) rfl ?_); refine bI (some 23) rfl rfl Tryz.func35 (by kernel_rfl) rfl #[.slice Gn t309.length EL] rfl (by (try simp only [List.map_toArray, List.map_cons, List.map_nil]); first | done | rfl | (simp only [List.length_drop, List.length_take]; rfl)) ?_; (with_reducible refine (dj.calls kj2 _ _ t309 t313 t314 _ ?side1 ?side2 A14.out).mono ?_); (case side1 => repeat (first | exact (Kd.bZ kX.out).2.2 | (with_reducible refine Kd.aX ?_ _) | (with_reducible refine Kd.aW ?_ _) | (with_reducible refine Kd.bh ?_))); (case side2 => exact (Kd.bZ kX.out).2.1); rintro e w' ⟨rfl, ⟨nd, rfl⟩⟩; refine ⟨_, rfl, ?_⟩; (try (rw [mK wc]; generalize hq_ : World.drewN wc _ = wc; have n0_ : aa (Kd.R (Kd.int .i64) 3 wc w.heap.size (fun _ => True) (.slice Gn t309.length EL) t309) := ⟨by rw [← hq_]; exact (by (with_reducible repeat (first | apply Kd.aH | apply Kd.aG | apply Kd.aQ)); exact kX.out)⟩; have n1_ : aa (wc.heap[fJ]? = some (.cells #[.int .i64 a0_0, .int .i64 a0_1, .slice A0_2 l0_2.length c0_2, .slice A0_3 l0_3.length c0_3, .int .i64 a0_4, .bool a0_5, .int .i64 a0_6] 32 (0, 0))) := ⟨by rw [← hq_]; exact (by (with_reducible repeat (first | refine al ?_ _ | refine ao ?_ | refine an ?_ _)); exact db.out)⟩; have n2_ : aa (wc.heap[dh]? = some (.cells #[.int .i64 0, .int .i64 0, .slice none 0 0, .slice none 0 0] 28 (0, 0))) := ⟨by rw [← hq_]; exact (by (with_reducible repeat (first | refine al ?_ _ | refine ao ?_ | refine an ?_ _)); exact ed.out)⟩; have n3_ : aa (Below w.heap.size w wc) := ⟨by rw [← hq_]; exact (by repeat (first | (with_reducible first | exact HB.out | apply ag | apply af | apply ah | refine ak ?_ j4.out | refine ak ?_ lL.out) | exact HB.out))⟩; clear kX db ed HB hq_; have kX := n0_; have db := n1_; have ed := n2_; have HB := n3_; clear n0_ n1_ n2_ n3_))))
    have n0_ := aa.mk (Kd.aQ kX.out)
    have n1_ := aa.mk (ao db.out)
    have n2_ := aa.mk (ao ed.out)
    have n3_ := aa.mk (ah HB.out)
    clear kX
    clear db
    clear ed
    clear HB
    have kX := n0_
    have db := n1_
    have ed := n2_
    have HB := n3_
    clear n0_ n1_ n2_ n3_
    refine j6 (n := 14) (S := fun w' => w'.cell? ⟨fJ, 0, none⟩ = some (.int .i64 a0_0) ∧ w'.cell? ⟨fJ, 1, none⟩ = some (.int .i64 a0_1) ∧ w'.cell? ⟨fJ, 2, none⟩ = some (.slice A0_2 l0_2.length c0_2) ∧ w'.cell? ⟨fJ, 3, none⟩ = some (.slice A0_3 l0_3.length c0_3) ∧ w'.cell? ⟨fJ, 4, none⟩ = some (.int .i64 a0_4) ∧ w'.cell? ⟨fJ, 5, none⟩ = some (.bool a0_5) ∧ w'.cell? ⟨fJ, 6, none⟩ = some (.int .i64 a0_6)) (ds := []) #[false, false, false, false, false, false, false, false, false, false, false, false, false, false] (by kernel_rfl) rfl rfl ⟨(ai db.out 0).trans rfl, (ai db.out 1).trans rfl, (ai db.out 2).trans rfl, (ai db.out 3).trans rfl, (ai db.out 4).trans rfl, (ai db.out 5).trans rfl, (ai db.out 6).trans rfl⟩ (fun hHeld => ?_); refine fS bH.Di bH.zz (fun HT_ HW_ => ?_)
    generalize wc.drew = w18 at kX db ed HB hHeld ⊢
    refine bO (i := 0) (N := some 26) (v := ?_) (a' := ?_) #[true, false, false, false, false, false, false, false, false, false, false, false, false, false] rfl rfl (bx HT_.out (by kernel_rfl)) (fun _ _ _ h => h) (Or.inl ⟨by rfl, ?_⟩) ?_ ?_
    rotate_left
    ·intro w'
     go_simp
     with_reducible rfl
    rotate_left
    ·simp only [Act.put, List.setIfInBounds_toArray, List.set_cons_zero, List.set_cons_succ, a8, bf]
     rfl
    refine bO (i := 1) (N := some 27) (v := ?_) (a' := ?_) #[true, true, false, false, false, false, false, false, false, false, false, false, false, false] rfl rfl (bx HT_.out (by kernel_rfl)) (fun _ _ _ h => h) (Or.inl ⟨by rfl, ?_⟩) ?_ ?_
    rotate_left
    ·intro w'
     go_simp
     with_reducible rfl
    rotate_left
    ·simp only [Act.put, List.setIfInBounds_toArray, List.set_cons_zero, List.set_cons_succ, a8, bf]
     rfl
    refine bO (i := 3) (N := some 29) (v := ?_) (a' := ?_) #[true, true, false, true, false, false, false, false, false, false, false, false, false, false] rfl rfl (bx HT_.out (by kernel_rfl)) (fun _ _ _ h => h) (Or.inl ⟨by rfl, ?_⟩) ?_ ?_
    rotate_left
    ·intro w'
     go_simp
     with_reducible rfl
    rotate_left
    ·simp only [Act.put, List.setIfInBounds_toArray, List.set_cons_zero, List.set_cons_succ, a8, bf]
     rfl
    refine bO (i := 4) (N := some 30) (v := ?_) (a' := ?_) #[true, true, false, true, true, false, false, false, false, false, false, false, false, false] rfl rfl (bx HT_.out (by kernel_rfl)) (fun _ _ _ h => h) (Or.inl ⟨by rfl, ?_⟩) ?_ ?_
    rotate_left
    ·intro w'
     go_simp
     with_reducible rfl
    rotate_left
    ·simp only [Act.put, List.setIfInBounds_toArray, List.set_cons_zero, List.set_cons_succ, a8, bf]
     rfl
    refine bO (i := 6) (N := some 32) (v := ?_) (a' := ?_) #[true, true, false, true, true, false, true, false, false, false, false, false, false, false] rfl rfl (bx HT_.out (by kernel_rfl)) (fun _ _ _ h => h) (Or.inl ⟨by rfl, ?_⟩) ?_ ?_
    rotate_left
    ·intro w'
     go_simp
     with_reducible rfl
    rotate_left
    ·simp only [Act.put, List.setIfInBounds_toArray, List.set_cons_zero, List.set_cons_succ, a8, bf]
     rfl
    refine bO (i := 9) (N := some 35) (v := ?_) (a' := ?_) #[true, true, false, true, true, false, true, false, false, true, false, false, false, false] rfl rfl (bx HT_.out (by kernel_rfl)) (fun _ _ _ h => h) (Or.inl ⟨by rfl, ?_⟩) ?_ ?_
    rotate_left
    ·intro w'
     go_simp
     with_reducible rfl
    rotate_left
    ·simp only [Act.put, List.setIfInBounds_toArray, List.set_cons_zero, List.set_cons_succ, a8, bf]
     rfl
    refine eW (i := 2) (N := some 28) (v := ?_) (a' := ?_) #[true, true, true, true, true, false, true, false, false, true, false, false, false, false] rfl rfl (cV HT_.out HW_.out (by kernel_rfl)) (fun _ _ _ h => h) (Or.inl ⟨by rfl, ?_⟩) hHeld ?_ ?_
    rotate_left
    ·rintro w' ⟨s0, s1, s2, s3, s4, s5, s6⟩
     go_simp
     with_reducible rfl
    rotate_left
    ·simp only [Act.put, List.setIfInBounds_toArray, List.set_cons_zero, List.set_cons_succ, a8, bf]
     rfl
    refine eW (i := 5) (N := some 31) (v := ?_) (a' := ?_) #[true, true, true, true, true, true, true, false, false, true, false, false, false, false] rfl rfl (cV HT_.out HW_.out (by kernel_rfl)) (fun _ _ _ h => h) (Or.inl ⟨by rfl, ?_⟩) hHeld ?_ ?_
    rotate_left
    ·rintro w' ⟨s0, s1, s2, s3, s4, s5, s6⟩
     go_simp
     with_reducible rfl
    rotate_left
    ·simp only [Act.put, List.setIfInBounds_toArray, List.set_cons_zero, List.set_cons_succ, a8, bf]
     rfl
    refine eW (i := 7) (N := some 33) (v := ?_) (a' := ?_) #[true, true, true, true, true, true, true, true, false, true, false, false, false, false] rfl rfl (cV HT_.out HW_.out (by kernel_rfl)) (fun _ _ _ h => h) (Or.inl ⟨by rfl, ?_⟩) hHeld ?_ ?_
    rotate_left
    ·rintro w' ⟨s0, s1, s2, s3, s4, s5, s6⟩
     go_simp
     with_reducible rfl
    rotate_left
    ·simp only [Act.put, List.setIfInBounds_toArray, List.set_cons_zero, List.set_cons_succ, a8, bf]
     rfl
    refine jv (i := 8) (N := some 34) #[true, true, true, true, true, true, true, true, true, true, false, false, false, false] rfl rfl (eO HT_.out (by kernel_rfl)) (by decide) (fun K hK => ?_)
    refine gD Tryz.func45 (by kernel_rfl) rfl #[.agg #[.int .i64 a0_0, .int .i64 a0_1, .slice A0_2 l0_2.length c0_2, .slice A0_3 l0_3.length c0_3]] (by rfl) rfl rfl (by (try simp only [List.map_toArray, List.map_cons, List.map_nil]); first | done | rfl | (simp only [List.length_drop, List.length_take]; rfl)) ?_
    with_reducible refine (bQ.calls kj2 a0_0 a0_1 _ _ l0_2 _ _ l0_3 t315 _ ?side1 ?side2 ?side3 ?side4 A15.out).mono ?_
    (case side1 => repeat (first | exact (Kd.ax cy.out HB.out) | (with_reducible refine Kd.aX ?_ _) | (with_reducible refine Kd.aW ?_ _) | (with_reducible refine Kd.bh ?_)))
    (case side2 => exact cD.out)
    (case side3 => repeat (first | exact (Kd.ax cF.out HB.out) | (with_reducible refine Kd.aX ?_ _) | (with_reducible refine Kd.aW ?_ _) | (with_reducible refine Kd.bh ?_)))
    (case side4 => exact cK.out)
    rintro e w19 ⟨rfl, hb⟩
    refine ⟨_, rfl, ?_⟩
    have n0_ := aa.mk (Kd.cx (by (with_reducible repeat (first | apply Kd.aH | apply Kd.aG | apply Kd.aQ)); exact kX.out) hb)
    have n1_ := aa.mk (aD (g := fJ) (o := .cells #[.int .i64 a0_0, .int .i64 a0_1, .slice A0_2 l0_2.length c0_2, .slice A0_3 l0_3.length c0_3, .int .i64 a0_4, .bool a0_5, .int .i64 a0_6] 32 (0, 0)) (by (with_reducible repeat (first | refine al ?_ _ | refine ao ?_ | refine an ?_ _)); exact db.out) hb)
    have n2_ := aa.mk (aD (g := dh) (o := .cells #[.int .i64 0, .int .i64 0, .slice none 0 0, .slice none 0 0] 28 (0, 0)) (by (with_reducible repeat (first | refine al ?_ _ | refine ao ?_ | refine an ?_ _)); exact ed.out) hb)
    have n3_ := aa.mk (ar (by repeat (first | (with_reducible first | exact HB.out | apply ag | apply af | apply ah | refine ak ?_ j4.out | refine ak ?_ lL.out) | exact HB.out)) hb)
    clear kX
    clear db
    clear ed
    clear HB
    have kX := n0_
    have db := n1_
    have ed := n2_
    have HB := n3_
    clear n0_ n1_ n2_ n3_
    (try clear hb)
    (try clear hb2)
    (try clear hk)
    (try clear hi)
    refine hK.out _ _ ⟨(ai db.out 0).trans rfl, (ai db.out 1).trans rfl, (ai db.out 2).trans rfl, (ai db.out 3).trans rfl, (ai db.out 4).trans rfl, (ai db.out 5).trans rfl, (ai db.out 6).trans rfl⟩ (fun hHeld => ?_)
    clear hK K
    refine gC (a' := ?_) ?_ ?_
    rotate_left
    ·show Act.put _ (some 34) _ = _
     simp only [Act.put, List.setIfInBounds_toArray, List.set_cons_zero, List.set_cons_succ, a8, bf]
     rfl
    refine bO (i := 10) (N := some 36) (v := ?_) (a' := ?_) #[true, true, true, true, true, true, true, true, true, true, true, false, false, false] rfl rfl (bx HT_.out (by kernel_rfl)) (fun _ _ _ h => h) (Or.inl ⟨by rfl, ?_⟩) ?_ ?_
    rotate_left
    ·intro w'
     go_simp
     with_reducible rfl
    rotate_left
    ·simp only [Act.put, List.setIfInBounds_toArray, List.set_cons_zero, List.set_cons_succ, a8, bf]
     rfl
    refine jv (i := 11) (N := some 37) #[true, true, true, true, true, true, true, true, true, true, true, true, false, false] rfl rfl (eO HT_.out (by kernel_rfl)) (by decide) (fun K hK => ?_)
    refine gD Tryz.func36 (by kernel_rfl) rfl #[.int .i64 a0_0, .int .i64 a0_1, .int .i64 (Go.bits .andNot .i64 t315 t314)] (by rfl) rfl rfl (by (try simp only [List.map_toArray, List.map_cons, List.map_nil]); first | done | rfl | (simp only [List.length_drop, List.length_take]; rfl)) ?_
    with_reducible refine (bA.calls kj2 a0_0 a0_1 (Go.bits .andNot .i64 t315 t314) t316 t317 t318 t321 _ A16.out).mono ?_
    rintro e w20 ⟨v319, v322, rfl, ho0, ho1, hb⟩
    refine ⟨_, rfl, ?_⟩
    have n0_ := aa.mk (Kd.bV (Kd.zG (Kd.zG (Kd.EZ (by (with_reducible repeat (first | apply Kd.aH | apply Kd.aG | apply Kd.aQ)); exact kX.out) hb) (Kd.kO ho0)) (Kd.kO ho1)) (fun _ h_ => h_.1))
    have n1_ := aa.mk (Kd.cW (Kd.p9 ho0 (Kd.ko (by (with_reducible repeat (first | apply Kd.aH | apply Kd.aG | apply Kd.aQ)); exact kX.out))) (aq (by repeat (first | (with_reducible first | exact HB.out | apply ag | apply af | apply ah | refine ak ?_ j4.out | refine ak ?_ lL.out) | exact HB.out))))
    have n2_ := aa.mk (Kd.cW (Kd.p9 ho1 (Kd.ko (by (with_reducible repeat (first | apply Kd.aH | apply Kd.aG | apply Kd.aQ)); exact kX.out))) (aq (by repeat (first | (with_reducible first | exact HB.out | apply ag | apply af | apply ah | refine ak ?_ j4.out | refine ak ?_ lL.out) | exact HB.out))))
    have n3_ := aa.mk (aD (g := fJ) (o := .cells #[.int .i64 a0_0, .int .i64 a0_1, .slice A0_2 l0_2.length c0_2, .slice A0_3 l0_3.length c0_3, .int .i64 a0_4, .bool a0_5, .int .i64 a0_6] 32 (0, 0)) (by (with_reducible repeat (first | refine al ?_ _ | refine ao ?_ | refine an ?_ _)); exact db.out) hb)
    have n4_ := aa.mk (aD (g := dh) (o := .cells #[.int .i64 0, .int .i64 0, .slice none 0 0, .slice none 0 0] 28 (0, 0)) (by (with_reducible repeat (first | refine al ?_ _ | refine ao ?_ | refine an ?_ _)); exact ed.out) hb)
    have n5_ := aa.mk (ar (by repeat (first | (with_reducible first | exact HB.out | apply ag | apply af | apply ah | refine ak ?_ j4.out | refine ak ?_ lL.out) | exact HB.out)) hb)
    clear kX
    clear db
    clear ed
    clear HB
    have kX := n0_
    have CX := n1_
    have CW := n2_
    have db := n3_
    have ed := n4_
    have HB := n5_
    clear n0_ n1_ n2_ n3_ n4_ n5_
    (try clear hb)
    (try clear hb2)
    (try clear hk)
    (try clear hi)
    (try clear ho0)
    (try clear ho1)
    obtain ⟨yt, yl, Cj⟩ := Kd.bE CX.out
    (first | subst Cj | (injection Cj with f1_ f2_ f3_; have f4_ := f1_.symm; have f5_ := f3_.symm; clear f1_ f2_ f3_; subst f4_; subst f5_))
    obtain ⟨Ei, DX, EK⟩ := Kd.bE CW.out
    (first | subst EK | (injection EK with f1_ f2_ f3_; have f4_ := f1_.symm; have f5_ := f3_.symm; clear f1_ f2_ f3_; subst f4_; subst f5_))
    refine hK.out _ _ ⟨(ai db.out 0).trans rfl, (ai db.out 1).trans rfl, (ai db.out 2).trans rfl, (ai db.out 3).trans rfl, (ai db.out 4).trans rfl, (ai db.out 5).trans rfl, (ai db.out 6).trans rfl⟩ (fun hHeld => ?_)
    clear hK K
    refine gC (a' := ?_) ?_ ?_
    rotate_left
    ·show Act.put _ (some 37) _ = _
     simp only [Act.put, List.setIfInBounds_toArray, List.set_cons_zero, List.set_cons_succ, a8, bf]
     rfl
    refine jv (i := 12) (N := none) #[true, true, true, true, true, true, true, true, true, true, true, true, true, false] rfl rfl (eO HT_.out (by kernel_rfl)) (by decide) (fun K hK => ?_)
    have hs21 : w20.cell? ⟨dh, 0, none⟩ = some (.int .i64 0) := (ai ed.out 0).trans rfl
    have hfs21 := aj ed.out 0
    have GA := cr.out
    have GF := jo.out
    have hs22 : w20.cell? ⟨dh, 1, none⟩ = some (.int .i64 0) := (ai ed.out 1).trans rfl
    have hfs22 := aj ed.out 1
    have Bl := cr.out
    have Bp := jo.out
    have hs24 : w20.cell? ⟨dh, 2, none⟩ = some (.slice none 0 0) := (ai ed.out 2).trans rfl
    have hfs24 := aj ed.out 2
    have Bk := cr.out
    have Bo := jo.out
    have hs26 : w20.cell? ⟨dh, 3, none⟩ = some (.slice none 0 0) := (ai ed.out 3).trans rfl
    have hfs26 := aj ed.out 3
    have Gx := cr.out
    have GB := jo.out
    refine CQ (w1 := ?_) (by rfl) rfl ?_ ?_
    rotate_left
    ·go_simp
     rfl
    refine hK.out _ _ ⟨((cell_far (p := ⟨dh, _, none⟩) cr.out _).trans (((cell_far (p := ⟨dh, _, none⟩) cr.out _).trans (((cell_far (p := ⟨dh, _, none⟩) cr.out _).trans (((cell_far (p := ⟨dh, _, none⟩) cr.out _).trans (hHeld.1)))))))), ((cell_far (p := ⟨dh, _, none⟩) cr.out _).trans (((cell_far (p := ⟨dh, _, none⟩) cr.out _).trans (((cell_far (p := ⟨dh, _, none⟩) cr.out _).trans (((cell_far (p := ⟨dh, _, none⟩) cr.out _).trans (hHeld.2.1)))))))), ((cell_far (p := ⟨dh, _, none⟩) cr.out _).trans (((cell_far (p := ⟨dh, _, none⟩) cr.out _).trans (((cell_far (p := ⟨dh, _, none⟩) cr.out _).trans (((cell_far (p := ⟨dh, _, none⟩) cr.out _).trans (hHeld.2.2.1)))))))), ((cell_far (p := ⟨dh, _, none⟩) cr.out _).trans (((cell_far (p := ⟨dh, _, none⟩) cr.out _).trans (((cell_far (p := ⟨dh, _, none⟩) cr.out _).trans (((cell_far (p := ⟨dh, _, none⟩) cr.out _).trans (hHeld.2.2.2.1)))))))), ((cell_far (p := ⟨dh, _, none⟩) cr.out _).trans (((cell_far (p := ⟨dh, _, none⟩) cr.out _).trans (((cell_far (p := ⟨dh, _, none⟩) cr.out _).trans (((cell_far (p := ⟨dh, _, none⟩) cr.out _).trans (hHeld.2.2.2.2.1)))))))), ((cell_far (p := ⟨dh, _, none⟩) cr.out _).trans (((cell_far (p := ⟨dh, _, none⟩) cr.out _).trans (((cell_far (p := ⟨dh, _, none⟩) cr.out _).trans (((cell_far (p := ⟨dh, _, none⟩) cr.out _).trans (hHeld.2.2.2.2.2.1)))))))), ((cell_far (p := ⟨dh, _, none⟩) cr.out _).trans (((cell_far (p := ⟨dh, _, none⟩) cr.out _).trans (((cell_far (p := ⟨dh, _, none⟩) cr.out _).trans (((cell_far (p := ⟨dh, _, none⟩) cr.out _).trans (hHeld.2.2.2.2.2.2))))))))⟩ (fun hHeld => ?_)
    clear hK K
    refine bO (i := 13) (N := some 3) (v := ?_) (a' := ?_) #[true, true, true, true, true, true, true, true, true, true, true, true, true, true] rfl rfl (bx HT_.out (by kernel_rfl)) (fun _ _ _ h => h) (Or.inl ⟨by rfl, ?_⟩) ?_ ?_
    rotate_left
    ·intro w'
     go_simp
     with_reducible rfl
    rotate_left
    ·simp only [Act.put, List.setIfInBounds_toArray, List.set_cons_zero, List.set_cons_succ, a8, bf]
     rfl
    refine mq (iU HT_.out (by kernel_rfl)) ?_
    try go_wp2
    refine bodyPost_ret (ky rfl _ _ dh 28 #[.int .i64 t316, .int .i64 t317, .slice yt t318.length yl, .slice Ei t321.length DX] (0, 0) _ rfl (by (with_reducible repeat (first | refine al ?_ _ | refine ao ?_ | refine an ?_ _)); refine bF (cs := #[.int .i64 t316, .int .i64 t317, .slice yt t318.length yl, .slice none 0 0]) ?_ 3 _ rfl; (with_reducible repeat (first | refine al ?_ _ | refine ao ?_ | refine an ?_ _)); refine bF (cs := #[.int .i64 t316, .int .i64 t317, .slice none 0 0, .slice none 0 0]) ?_ 2 _ rfl; (with_reducible repeat (first | refine al ?_ _ | refine ao ?_ | refine an ?_ _)); refine bF (cs := #[.int .i64 t316, .int .i64 0, .slice none 0 0, .slice none 0 0]) ?_ 1 _ rfl; (with_reducible repeat (first | refine al ?_ _ | refine ao ?_ | refine an ?_ _)); refine bF (cs := #[.int .i64 0, .int .i64 0, .slice none 0 0, .slice none 0 0]) ?_ 0 _ rfl; (with_reducible repeat (first | refine al ?_ _ | refine ao ?_ | refine an ?_ _)); exact ed.out) Tryz.underlying28 rfl (by kernel_rfl)) rfl ?_
    exact ⟨_, _, by first | rfl | (simp [av, au] <;> rfl) | (simp [*, av, au] <;> rfl), by (with_reducible repeat (first | apply Kd.aH | apply Kd.aG | apply Kd.aQ)); exact Kd.bV (Kd.bp (p := ⟨dh, 3, none⟩) (Kd.bp (p := ⟨dh, 2, none⟩) (Kd.bp (p := ⟨dh, 1, none⟩) (Kd.bp (p := ⟨dh, 0, none⟩) (Kd.cU CX.out ed.out (by decide)) (fun _ hk => hk.2) (.int .i64 t316)) (fun _ hk => hk.2) (.int .i64 t317)) (fun _ hk => hk.2) (.slice yt t318.length yl)) (fun _ hk => hk.2) (.slice Ei t321.length DX)) (fun _ hk => hk.1.1), by (with_reducible repeat (first | apply Kd.aH | apply Kd.aG | apply Kd.aQ)); exact Kd.bV (Kd.bp (p := ⟨dh, 3, none⟩) (Kd.bp (p := ⟨dh, 2, none⟩) (Kd.bp (p := ⟨dh, 1, none⟩) (Kd.bp (p := ⟨dh, 0, none⟩) (Kd.cU CW.out ed.out (by decide)) (fun _ hk => hk.2) (.int .i64 t316)) (fun _ hk => hk.2) (.int .i64 t317)) (fun _ hk => hk.2) (.slice yt t318.length yl)) (fun _ hk => hk.2) (.slice Ei t321.length DX)) (fun _ hk => hk.1.1), by repeat (first | (with_reducible first | exact HB.out | apply ag | apply af | apply ah | refine ak ?_ j4.out | refine ak ?_ lL.out) | exact HB.out)⟩
end Go.Proofs.YtmjlmloomkodpaaGreatDoor.PA
namespace Go.Proofs.YtmjlmloomkodpaaGreatDoor.PA
open Go.RowKit Go.Proofs.ae.aw Go.Proofs.ae.aJ Go.Proofs.ae.aN
attribute [local go_sem] bo bm bC bB a6 aZ bn bj
set_option linter.unusedVariables false
set_option linter.unusedSimpArgs false
def cj.f (a0_0 : Int) (a0_1 : Int) : Option (Int) := (bu.f a0_0 a0_1).bind fun t113 => ((cA.f a0_0 a0_1).bind fun t114 => (if 0 ≤ (wrap64 (t113 + t114)) then (some (IntKind.u64.wrap ((shl .u64 1 (wrap64 (t113 + t114))) - 1))) else (none)))
def cj.T1 : Bool × List (List Nat × List Nat) := (true, [([], []), ([0], [0]), ([], []), ([2, 1], [2]), ([1, 3], [1, 3]), ([4], [4]), ([5], [5]), ([6, 3, 0, 1, 2, 3, 4, 5, 6], [6])])
def cj.B1 : List Nat := [0, 1, 0, 7, 15, 31, 63, 127]
theorem cj.uy : iw .any (opsOf Tryz.f67 1) = cj.T1 := by kernel_rfl
theorem cj.pT : gL cj.T1.2 cj.B1 = true := by kernel_rfl
set_option maxHeartbeats 8000000 in
set_option maxRecDepth 100000 in
theorem cj.calls (a0_0 : Int) (a0_1 : Int) (r : Int) (w : World) (h : cj.f a0_0 a0_1 = some r) :
  Calls Tryz.prog 67 #[.agg #[.int .i64 a0_0, .int .i64 a0_1]] w fun e w' => e = .returned (.int .u64 r) ∧ Below w.heap.size w w' := by
 have hu61 := Tryz.underlying61
 have HB := aa.mk (Below.refl w.heap.size w)
 have H : ((bu.f a0_0 a0_1).bind fun t113 => ((cA.f a0_0 a0_1).bind fun t114 => (if 0 ≤ (wrap64 (t113 + t114)) then (some (IntKind.u64.wrap ((shl .u64 1 (wrap64 (t113 + t114))) - 1))) else (none)))) = some r := h
 clear h
 replace H := Option.bind_eq_some_iff.mp H
 obtain ⟨t113, A20, H⟩ := H
 replace H : ((cA.f a0_0 a0_1).bind fun t114 => (if 0 ≤ (wrap64 (t113 + t114)) then (some (IntKind.u64.wrap ((shl .u64 1 (wrap64 (t113 + t114))) - 1))) else (none))) = some r := H
 have A2 := aa.mk A20
 clear A20
 replace H := Option.bind_eq_some_iff.mp H
 obtain ⟨t114, A30, H⟩ := H
 replace H : (if 0 ≤ (wrap64 (t113 + t114)) then (some (IntKind.u64.wrap ((shl .u64 1 (wrap64 (t113 + t114))) - 1))) else (none)) = some r := H
 have A3 := aa.mk A30
 clear A30
 obtain ⟨ji4, hji4⟩ : ∃ j_ : Int, (wrap64 (t113 + t114)) = j_ := ⟨_, rfl⟩
 replace H : (if 0 ≤ (ji4) then (some (IntKind.u64.wrap ((shl .u64 1 (ji4)) - 1))) else (none)) = some r := by first | (rw [hji4] at H; exact H) | (simp only [hji4] at H ⊢; exact H)
 (try rw [hji4] at A2)
 (try rw [hji4] at A3)
 have hji4w : (IntKind.i64.wrap (t113 + t114)) = ji4 := (a8 _).trans hji4
 by_cases c5 : 0 ≤ (ji4)
 ·rw [if_pos c5] at H
  have c5b0 := eq_true c5
  have c5b1 : decide (0 ≤ (ji4)) = true := decide_eq_true c5
  clear c5
  obtain ⟨ji6, hji6⟩ : ∃ j_ : Int, (shl .u64 1 (ji4)) = j_ := ⟨_, rfl⟩
  replace H : (some (IntKind.u64.wrap ((ji6) - 1))) = some r := by first | (rw [hji6] at H; exact H) | (simp only [hji6] at H ⊢; exact H)
  (try rw [hji6] at A2)
  (try rw [hji6] at A3)
  have hji6_ : (IntKind.u64.wrap (1 * 2 ^ min (ji4).toNat 64)) = ji6 := hji6
  have hji6z : (ji4) ≤ 64 → (IntKind.u64.wrap (1 * 2 ^ (ji4).toNat)) = ji6 := fT hji6
  have hji6u : (IntKind.u64.wrap (2 ^ min (ji4).toNat 64)) = ji6 := by have h_ := hji6_; rw [Int.one_mul] at h_; exact h_
  have hji6v : (ji4) ≤ 64 → (IntKind.u64.wrap (2 ^ (ji4).toNat)) = ji6 := fun hle_ => by have h_ := hji6z hle_; rw [Int.one_mul] at h_; exact h_
  obtain rfl := Option.some.inj H
  go_enter Tryz.func67, Tryz.ntmps67
  try go_wp2_with (first | ((with_reducible refine aV (N := 1) rfl ?_); refine aM ?hg (N := 1) ?hd (cs := #[.int .i64 a0_0, .int .i64 a0_1]) (t := 61) ?hr ?_; (case hd => rfl); (case hg => rfl); (case hr => first | (go_simp; done) | (go_simp; rfl)); intro qW hg w7 hbox hb; have n0_ := aa.mk (ar (by repeat (first | (with_reducible first | exact HB.out | apply ag | apply af | apply ah) | exact HB.out)) hb); have n1_ := aa.mk (hbox); have n2_ := aa.mk ((by rw [hg]; exact (aq (by repeat (first | (with_reducible first | exact HB.out | apply ag | apply af | apply ah) | exact HB.out))) : w.heap.size ≤ qW)); have n3_ := aa.mk ((by rw [hg]; exact (aq (by repeat (first | (with_reducible first | exact HB.out | apply ag | apply af | apply ah) | exact HB.out))) : w.heap.size ≤ qW)); clear HB; have HB := n0_; have ji := n1_; have GW112 := n2_; have z8 := n3_; clear n0_ n1_ n2_ n3_; clear hb hbox hg))
  have n0_ := aa.mk (ao ji.out)
  have n1_ := aa.mk (ah HB.out)
  clear ji
  clear HB
  have ji := n0_
  have HB := n1_
  clear n0_ n1_
  refine j6 (n := 8) (S := fun w' => w'.cell? ⟨qW, 0, none⟩ = some (.int .i64 a0_0) ∧ w'.cell? ⟨qW, 1, none⟩ = some (.int .i64 a0_1)) (ds := []) #[false, false, false, false, false, false, false, false] (by kernel_rfl) rfl rfl ⟨(ai ji.out 0).trans rfl, (ai ji.out 1).trans rfl⟩ (fun hHeld => ?_); refine fS cj.uy cj.pT (fun HT_ HW_ => ?_)
  generalize w7.drew = w8 at ji HB hHeld ⊢
  refine eW (i := 0) (N := some 3) (v := ?_) (a' := ?_) #[true, false, false, false, false, false, false, false] rfl rfl (cV HT_.out HW_.out (by kernel_rfl)) (fun _ _ _ h => h) (Or.inl ⟨by rfl, ?_⟩) hHeld ?_ ?_
  rotate_left
  ·rintro w' ⟨s0, s1⟩
   go_simp
   with_reducible rfl
  rotate_left
  ·simp only [Act.put, List.setIfInBounds_toArray, List.set_cons_zero, List.set_cons_succ, a8, bf]
   rfl
  refine eW (i := 2) (N := some 5) (v := ?_) (a' := ?_) #[true, false, true, false, false, false, false, false] rfl rfl (cV HT_.out HW_.out (by kernel_rfl)) (fun _ _ _ h => h) (Or.inl ⟨by rfl, ?_⟩) hHeld ?_ ?_
  rotate_left
  ·rintro w' ⟨s0, s1⟩
   go_simp
   with_reducible rfl
  rotate_left
  ·simp only [Act.put, List.setIfInBounds_toArray, List.set_cons_zero, List.set_cons_succ, a8, bf]
   rfl
  refine jv (i := 1) (N := some 4) #[true, true, true, false, false, false, false, false] rfl rfl (eO HT_.out (by kernel_rfl)) (by decide) (fun K hK => ?_)
  refine gD Tryz.func69 (by kernel_rfl) rfl #[.agg #[.int .i64 a0_0, .int .i64 a0_1]] (by rfl) rfl rfl (by (try simp only [List.map_toArray, List.map_cons, List.map_nil]); first | done | rfl | (simp only [List.length_drop, List.length_take]; rfl)) ?_
  with_reducible refine (bu.calls a0_0 a0_1 t113 _ A2.out).mono ?_
  rintro e w9 ⟨rfl, hb⟩
  refine ⟨_, rfl, ?_⟩
  have n0_ := aa.mk (aD (g := qW) (o := .cells #[.int .i64 a0_0, .int .i64 a0_1] 61 (0, 0)) (by (with_reducible repeat (first | refine al ?_ _ | refine ao ?_ | refine an ?_ _)); exact ji.out) hb)
  have n1_ := aa.mk (ar (by repeat (first | (with_reducible first | exact HB.out | apply ag | apply af | apply ah | refine ak ?_ z8.out) | exact HB.out)) hb)
  clear ji
  clear HB
  have ji := n0_
  have HB := n1_
  clear n0_ n1_
  (try clear hb)
  (try clear hb2)
  (try clear hk)
  (try clear hi)
  refine hK.out _ _ ⟨(ai ji.out 0).trans rfl, (ai ji.out 1).trans rfl⟩ (fun hHeld => ?_)
  clear hK K
  refine gC (a' := ?_) ?_ ?_
  rotate_left
  ·show Act.put _ (some 4) _ = _
   simp only [Act.put, List.setIfInBounds_toArray, List.set_cons_zero, List.set_cons_succ, a8, bf]
   rfl
  refine jv (i := 3) (N := some 6) #[true, true, true, true, false, false, false, false] rfl rfl (eO HT_.out (by kernel_rfl)) (by decide) (fun K hK => ?_)
  refine gD Tryz.func105 (by kernel_rfl) rfl #[.agg #[.int .i64 a0_0, .int .i64 a0_1]] (by rfl) rfl rfl (by (try simp only [List.map_toArray, List.map_cons, List.map_nil]); first | done | rfl | (simp only [List.length_drop, List.length_take]; rfl)) ?_
  with_reducible refine (cA.calls a0_0 a0_1 t114 _ A3.out).mono ?_
  rintro e w10 ⟨rfl, hb⟩
  refine ⟨_, rfl, ?_⟩
  have n0_ := aa.mk (aD (g := qW) (o := .cells #[.int .i64 a0_0, .int .i64 a0_1] 61 (0, 0)) (by (with_reducible repeat (first | refine al ?_ _ | refine ao ?_ | refine an ?_ _)); exact ji.out) hb)
  have n1_ := aa.mk (ar (by repeat (first | (with_reducible first | exact HB.out | apply ag | apply af | apply ah | refine ak ?_ z8.out) | exact HB.out)) hb)
  clear ji
  clear HB
  have ji := n0_
  have HB := n1_
  clear n0_ n1_
  (try clear hb)
  (try clear hb2)
  (try clear hk)
  (try clear hi)
  refine hK.out _ _ ⟨(ai ji.out 0).trans rfl, (ai ji.out 1).trans rfl⟩ (fun hHeld => ?_)
  clear hK K
  refine gC (a' := ?_) ?_ ?_
  rotate_left
  ·show Act.put _ (some 6) _ = _
   simp only [Act.put, List.setIfInBounds_toArray, List.set_cons_zero, List.set_cons_succ, a8, bf]
   rfl
  refine bO (i := 4) (N := some 7) (v := ?_) (a' := ?_) #[true, true, true, true, true, false, false, false] rfl rfl (bx HT_.out (by kernel_rfl)) (fun _ _ _ h => h) (Or.inl ⟨by rfl, ?_⟩) ?_ ?_
  rotate_left
  ·intro w'
   go_simp
   with_reducible rfl
  rotate_left
  ·simp only [Act.put, List.setIfInBounds_toArray, List.set_cons_zero, List.set_cons_succ, a8, bf]
   rfl
  refine bO (i := 5) (N := some 8) (v := ?_) (a' := ?_) #[true, true, true, true, true, true, false, false] rfl rfl (bx HT_.out (by kernel_rfl)) (fun _ _ _ h => h) (Or.inl ⟨by rfl, ?_⟩) ?_ ?_
  rotate_left
  ·intro w'
   go_simp
   with_reducible rfl
  rotate_left
  ·simp only [Act.put, List.setIfInBounds_toArray, List.set_cons_zero, List.set_cons_succ, a8, bf]
   rfl
  refine bO (i := 6) (N := some 9) (v := ?_) (a' := ?_) #[true, true, true, true, true, true, true, false] rfl rfl (bx HT_.out (by kernel_rfl)) (fun _ _ _ h => h) (Or.inl ⟨by rfl, ?_⟩) ?_ ?_
  rotate_left
  ·intro w'
   go_simp
   with_reducible rfl
  rotate_left
  ·simp only [Act.put, List.setIfInBounds_toArray, List.set_cons_zero, List.set_cons_succ, a8, bf]
   rfl
  refine bO (i := 7) (N := some 2) (v := ?_) (a' := ?_) #[true, true, true, true, true, true, true, true] rfl rfl (bx HT_.out (by kernel_rfl)) (fun _ _ _ h => h) (Or.inl ⟨by rfl, ?_⟩) ?_ ?_
  rotate_left
  ·intro w'
   go_simp
   with_reducible rfl
  rotate_left
  ·simp only [Act.put, List.setIfInBounds_toArray, List.set_cons_zero, List.set_cons_succ, a8, bf]
   rfl
  refine mq (iU HT_.out (by kernel_rfl)) ?_
  try go_wp2
  go_ret
  exact ⟨by first | rfl | (simp [av, au] <;> rfl) | (simp only [← hji4, ← hji6]; first | rfl | (simp [av, au] <;> rfl)) | (simp [*, av, au] <;> rfl), by repeat (first | (with_reducible first | exact HB.out | apply ag | apply af | apply ah | refine ak ?_ z8.out) | exact HB.out)⟩
 ·rw [if_neg c5] at H
  exact absurd H (by simp)
end Go.Proofs.YtmjlmloomkodpaaGreatDoor.PA
namespace Go.Proofs.YtmjlmloomkodpaaGreatDoor.PA
open Go.RowKit Go.Proofs.ae.aw Go.Proofs.ae.aJ Go.Proofs.ae.aN
attribute [local go_sem] bo bm bC bB a6 aZ bn bj
set_option linter.unusedVariables false
set_option linter.unusedSimpArgs false
mutual
def aI.l0 : Nat → Int → List Int → Int → Int → Int → Int → List Int → List Int → Option (Int)
 | 0, _, _, _, _, _, _, _, _ => none
 | k + 1, x3, x9, x10, x11, x116000, x116001, x116002, x116003 => if x11 < x10 then (if 0 ≤ x11 then (if x11 < (x9.length : Int) then (if 0 ≤ (rd x9 x11) then (aI.l0 k (Go.bits .or .u64 x3 (shl .u64 1 (rd x9 x11))) x9 x10 (wrap64 (x11 + 1)) x116000 x116001 x116002 x116003) else (none)) else (none)) else (none)) else (aI.l1 k x3 x116003 (x116003.length : Int) 0 x116000 x116001 x116002 x116003)
def aI.l1 : Nat → Int → List Int → Int → Int → Int → Int → List Int → List Int → Option (Int)
 | 0, _, _, _, _, _, _, _, _ => none
 | k + 1, x3, x21, x22, x23, x116000, x116001, x116002, x116003 => if x23 < x22 then (if 0 ≤ x23 then (if x23 < (x21.length : Int) then ((bN.f x116000 x116001 x116002 x116003).bind fun bt118 => ((bu.f bt118.1 bt118.2).bind fun t120 => (if 0 ≤ (wrap64 (t120 + (rd x21 x23))) then (aI.l1 k (Go.bits .or .u64 x3 (shl .u64 1 (wrap64 (t120 + (rd x21 x23))))) x21 x22 (wrap64 (x23 + 1)) x116000 x116001 x116002 x116003) else (none)))) else (none)) else (none)) else (some x3)
end
def aI.f (k : Nat) (a0_0 : Int) (a0_1 : Int) (l0_2 : List Int) (l0_3 : List Int) : Option (Int) := aI.l0 k 0 l0_2 (l0_2.length : Int) 0 a0_0 a0_1 l0_2 l0_3
set_option maxHeartbeats 8000000 in
set_option maxRecDepth 100000 in
theorem aI.calls (k : Nat) (a0_0 : Int) (a0_1 : Int) (A0_2 : Option Addr) (c0_2 : Nat) (l0_2 : List Int) (A0_3 : Option Addr) (c0_3 : Nat) (l0_3 : List Int) (r : Int) (w : World) (ca : Kd.C (Kd.int .i64) w A0_2 l0_2.length l0_2) (bX : l0_2.length ≤ c0_2) (b0 : Kd.C (Kd.int .i64) w A0_3 l0_3.length l0_3) (bW : l0_3.length ≤ c0_3) (h : aI.f k a0_0 a0_1 l0_2 l0_3 = some r) :
  Calls Tryz.prog 68 #[.agg #[.int .i64 a0_0, .int .i64 a0_1, .slice A0_2 l0_2.length c0_2, .slice A0_3 l0_3.length c0_3]] w fun e w' => e = .returned (.int .u64 r) ∧ Below w.heap.size w w' := by
 have hu28 := Tryz.underlying28
 have cy := aa.mk ca
 have cD := aa.mk bX
 clear ca bX
 have cF := aa.mk b0
 have cK := aa.mk bW
 clear b0 bW
 have HB := aa.mk (Below.refl w.heap.size w)
 have H : (aI.l0 k 0 l0_2 (l0_2.length : Int) 0 a0_0 a0_1 l0_2 l0_3) = some r := h
 clear h
 have H' := aa.mk H
 clear H
 go_enter Tryz.func68, Tryz.ntmps68
 go_wp2_with (first | ((with_reducible refine aV (N := 1) rfl ?_); refine aM ?hg (N := 1) ?hd (cs := #[.int .i64 a0_0, .int .i64 a0_1, .slice A0_2 l0_2.length c0_2, .slice A0_3 l0_3.length c0_3]) (t := 28) ?hr ?_; (case hd => rfl); (case hg => rfl); (case hr => first | (go_simp; done) | (go_simp; rfl)); intro iy hg w2 hbox hb; have n0_ := aa.mk (ar (by repeat (first | (with_reducible first | exact HB.out | apply ag | apply af | apply ah) | exact HB.out)) hb); have n1_ := aa.mk (hbox); have n2_ := aa.mk ((by rw [hg]; exact (aq (by repeat (first | (with_reducible first | exact HB.out | apply ag | apply af | apply ah) | exact HB.out))) : w.heap.size ≤ iy)); have n3_ := aa.mk ((by rw [hg]; exact (aq (by repeat (first | (with_reducible first | exact HB.out | apply ag | apply af | apply ah) | exact HB.out))) : w.heap.size ≤ iy)); clear HB; have HB := n0_; have et := n1_; have GW115 := n2_; have qh := n3_; clear n0_ n1_ n2_ n3_; clear hb hbox hg; have lv : w2.cell? ⟨iy, 0, none⟩ = some (.int .i64 a0_0) := (ai et.out 0).trans rfl; have lu : w2.cell? ⟨iy, 1, none⟩ = some (.int .i64 a0_1) := (ai et.out 1).trans rfl; have nH : w2.cell? ⟨iy, 2, none⟩ = some (.slice A0_2 l0_2.length c0_2) := (ai et.out 2).trans rfl; have nG : w2.cell? ⟨iy, 3, none⟩ = some (.slice A0_3 l0_3.length c0_3) := (ai et.out 3).trans rfl; have lh := aj et.out 0; have lg := aj et.out 1; have nF := aj et.out 2; have nD := aj et.out 3))
 go_loopg [3, 11] k (fun kq v3 v11 w' => ∃ (x3_1 : Int) (x11_1 : Int), v3 = .int .u64 x3_1 ∧ v11 = .int .i64 x11_1 ∧ aa (aI.l0 kq x3_1 l0_2 (l0_2.length : Int) x11_1 a0_0 a0_1 l0_2 l0_3 = some r) ∧ aa (kq ≤ k) ∧ aa (w'.heap[iy]? = some (.cells #[.int .i64 a0_0, .int .i64 a0_1, (.slice A0_2 l0_2.length c0_2), (.slice A0_3 l0_3.length c0_3)] 28 (0, 0))) ∧ aa (Below w.heap.size w w'))
 case atStart => exact ⟨(0), (0), (by first | rfl | (simp; done) | (simp [*]; done)), (by first | rfl | (simp; done) | (simp [*]; done)), H', ⟨Nat.le_refl _⟩, ⟨by (with_reducible repeat (first | refine al ?_ _ | refine ao ?_ | refine an ?_ _)); exact et.out⟩, ⟨by repeat (first | (with_reducible first | exact HB.out | apply ag | apply af | apply ah | refine ak ?_ qh.out) | exact HB.out)⟩⟩
 case round =>
  clear H'
  try clear p2
  try clear lv
  try clear lu
  try clear nH
  try clear nG
  try clear lh
  try clear lg
  try clear nF
  try clear nD
  obtain ⟨x3_1, x11_1, rfl, rfl, HA, HK1, et, HB⟩ := hrel
  cases gk with
  | zero => exact absurd HA.out (by simp [aI.l0])
  | succ k1 =>
   have H := HA.out
   clear HA
   simp only [aI.l0] at H
   by_cases c4 : x11_1 < (l0_2.length : Int)
   ·rw [if_pos c4] at H
    have c4b0 : decide (x11_1 < (l0_2.length : Int)) = true := decide_eq_true c4
    clear c4
    by_cases c5 : 0 ≤ x11_1
    ·rw [if_pos c5] at H
     have c5b0 : decide (0 ≤ x11_1) = true := decide_eq_true c5
     clear c5
     by_cases c6 : x11_1 < (l0_2.length : Int)
     ·rw [if_pos c6] at H
      have c6b0 : decide (x11_1 < (l0_2.length : Int)) = true := decide_eq_true c6
      clear c6
      by_cases c7 : 0 ≤ (rd l0_2 x11_1)
      ·rw [if_pos c7] at H
       have c7b0 := eq_true c7
       have c7b1 : decide (0 ≤ (rd l0_2 x11_1)) = true := decide_eq_true c7
       clear c7
       obtain ⟨ji8, hji8⟩ : ∃ j_ : Int, (shl .u64 1 (rd l0_2 x11_1)) = j_ := ⟨_, rfl⟩
       replace H : (aI.l0 k1 (Go.bits .or .u64 x3_1 (ji8)) l0_2 (l0_2.length : Int) (wrap64 (x11_1 + 1)) a0_0 a0_1 l0_2 l0_3) = some r := by first | (rw [hji8] at H; exact H) | (simp only [hji8] at H ⊢; exact H)
       have hji8_ : (IntKind.u64.wrap (1 * 2 ^ min (rd l0_2 x11_1).toNat 64)) = ji8 := hji8
       have hji8z : (rd l0_2 x11_1) ≤ 64 → (IntKind.u64.wrap (1 * 2 ^ (rd l0_2 x11_1).toNat)) = ji8 := fT hji8
       have hji8u : (IntKind.u64.wrap (2 ^ min (rd l0_2 x11_1).toNat 64)) = ji8 := by have h_ := hji8_; rw [Int.one_mul] at h_; exact h_
       have hji8v : (rd l0_2 x11_1) ≤ 64 → (IntKind.u64.wrap (2 ^ (rd l0_2 x11_1).toNat)) = ji8 := fun hle_ => by have h_ := hji8z hle_; rw [Int.one_mul] at h_; exact h_
       have H' := aa.mk H
       clear H
       have p116 : 0 ≤ (x11_1 : Int) := of_decide_eq_true (by first | (with_reducible assumption) | assumption)
       have q116 : x11_1 < (l0_2.length : Int) := of_decide_eq_true (by first | (with_reducible assumption) | assumption)
       obtain ⟨ad116, e116, oW⟩ := Kd.dv cy.out x11_1 p116 q116
       cases e116
       replace oW := (HB.out.cell (World.block_lt_of_cell? w _ oW)).trans oW
       replace p116 := eq_true p116
       replace q116 := eq_true q116
       go_wp2
       go_roundg k1
       case measure => have := HK1.out; omega
       case rel => exact ⟨(Go.bits .or .u64 x3_1 (ji8)), (wrap64 (x11_1 + 1)), (by first | rfl | (simp; done) | (simp only [← hji8] <;> (first | rfl | simp)) | (simp [*]; done)), (by first | rfl | (simp; done) | (simp [*]; done)), H', ⟨by have := HK1.out; omega⟩, ⟨by (with_reducible repeat (first | refine al ?_ _ | refine ao ?_ | refine an ?_ _)); exact et.out⟩, ⟨by repeat (first | (with_reducible first | exact HB.out | apply ag | apply af | apply ah | refine ak ?_ qh.out) | exact HB.out)⟩⟩
      ·rw [if_neg c7] at H
       exact absurd H (by simp)
     ·rw [if_neg c6] at H
      exact absurd H (by simp)
    ·rw [if_neg c5] at H
     exact absurd H (by simp)
   ·rw [if_neg c4] at H
    have c4b0 : decide (x11_1 < (l0_2.length : Int)) = false := decide_eq_false c4
    clear c4
    have H' := aa.mk H
    clear H
    have gS : wr.cell? ⟨iy, 0, none⟩ = some (.int .i64 a0_0) := (ai et.out 0).trans rfl
    have gR : wr.cell? ⟨iy, 1, none⟩ = some (.int .i64 a0_1) := (ai et.out 1).trans rfl
    have iD : wr.cell? ⟨iy, 2, none⟩ = some (.slice A0_2 l0_2.length c0_2) := (ai et.out 2).trans rfl
    have iC : wr.cell? ⟨iy, 3, none⟩ = some (.slice A0_3 l0_3.length c0_3) := (ai et.out 3).trans rfl
    have gQ := aj et.out 0
    have gP := aj et.out 1
    have iB := aj et.out 2
    have iA := aj et.out 3
    go_wp2
    go_loopg [3, 23] k1 (fun kq v3 v23 w' => ∃ (x3_2 : Int) (x23_2 : Int), v3 = .int .u64 x3_2 ∧ v23 = .int .i64 x23_2 ∧ aa (aI.l1 kq x3_2 l0_3 (l0_3.length : Int) x23_2 a0_0 a0_1 l0_2 l0_3 = some r) ∧ aa (kq ≤ k1) ∧ aa (w'.heap[iy]? = some (.cells #[.int .i64 a0_0, .int .i64 a0_1, (.slice A0_2 l0_2.length c0_2), (.slice A0_3 l0_3.length c0_3)] 28 (0, 0))) ∧ aa (Below w.heap.size w w'))
    case atStart => exact ⟨(x3_1), (0), (by first | rfl | (simp; done) | (simp [*]; done)), (by first | rfl | (simp; done) | (simp [*]; done)), H', ⟨Nat.le_refl _⟩, ⟨by (with_reducible repeat (first | refine al ?_ _ | refine ao ?_ | refine an ?_ _)); exact et.out⟩, ⟨by repeat (first | (with_reducible first | exact HB.out | apply ag | apply af | apply ah | refine ak ?_ qh.out) | exact HB.out)⟩⟩
    case round =>
     clear H'
     try clear p1
     try clear q1
     try clear hx1
     try clear p2
     try clear c4
     try clear c4b0
     try clear c5
     try clear c5b0
     try clear c6
     try clear c6b0
     try clear p6
     try clear c7
     try clear c7b0
     try clear c7b1
     try clear lv
     try clear lu
     try clear nH
     try clear nG
     try clear gS
     try clear gR
     try clear iD
     try clear iC
     try clear lh
     try clear lg
     try clear nF
     try clear nD
     try clear gQ
     try clear gP
     try clear iB
     try clear iA
     try clear oW
     try clear p116
     try clear p2
     try clear q116
     obtain ⟨x3_2, x23_2, rfl, rfl, HA, HK2, et, HB⟩ := hrel
     cases gk with
     | zero => exact absurd HA.out (by simp [aI.l1])
     | succ k2 =>
      have H := HA.out
      clear HA
      simp only [aI.l1] at H
      by_cases c10 : x23_2 < (l0_3.length : Int)
      ·rw [if_pos c10] at H
       have c10b0 : decide (x23_2 < (l0_3.length : Int)) = true := decide_eq_true c10
       clear c10
       by_cases c11 : 0 ≤ x23_2
       ·rw [if_pos c11] at H
        have c11b0 : decide (0 ≤ x23_2) = true := decide_eq_true c11
        clear c11
        by_cases c12 : x23_2 < (l0_3.length : Int)
        ·rw [if_pos c12] at H
         have c12b0 : decide (x23_2 < (l0_3.length : Int)) = true := decide_eq_true c12
         clear c12
         replace H := Option.bind_eq_some_iff.mp H
         obtain ⟨⟨t118, t119⟩, A130, H⟩ := H
         replace H : ((bu.f t118 t119).bind fun t120 => (if 0 ≤ (wrap64 (t120 + (rd l0_3 x23_2))) then (aI.l1 k2 (Go.bits .or .u64 x3_2 (shl .u64 1 (wrap64 (t120 + (rd l0_3 x23_2))))) l0_3 (l0_3.length : Int) (wrap64 (x23_2 + 1)) a0_0 a0_1 l0_2 l0_3) else (none))) = some r := H
         have A13 := aa.mk A130
         clear A130
         replace H := Option.bind_eq_some_iff.mp H
         obtain ⟨t120, A140, H⟩ := H
         replace H : (if 0 ≤ (wrap64 (t120 + (rd l0_3 x23_2))) then (aI.l1 k2 (Go.bits .or .u64 x3_2 (shl .u64 1 (wrap64 (t120 + (rd l0_3 x23_2))))) l0_3 (l0_3.length : Int) (wrap64 (x23_2 + 1)) a0_0 a0_1 l0_2 l0_3) else (none)) = some r := H
         have A14 := aa.mk A140
         clear A140
         obtain ⟨ji15, hji15⟩ : ∃ j_ : Int, (wrap64 (t120 + (rd l0_3 x23_2))) = j_ := ⟨_, rfl⟩
         replace H : (if 0 ≤ (ji15) then (aI.l1 k2 (Go.bits .or .u64 x3_2 (shl .u64 1 (ji15))) l0_3 (l0_3.length : Int) (wrap64 (x23_2 + 1)) a0_0 a0_1 l0_2 l0_3) else (none)) = some r := by first | (rw [hji15] at H; exact H) | (simp only [hji15] at H ⊢; exact H)
         (try rw [hji15] at A13)
         (try rw [hji15] at A14)
         have hji15w : (IntKind.i64.wrap (t120 + (rd l0_3 x23_2))) = ji15 := (a8 _).trans hji15
         by_cases c16 : 0 ≤ (ji15)
         ·rw [if_pos c16] at H
          have c16b0 := eq_true c16
          have c16b1 : decide (0 ≤ (ji15)) = true := decide_eq_true c16
          clear c16
          obtain ⟨ji17, hji17⟩ : ∃ j_ : Int, (shl .u64 1 (ji15)) = j_ := ⟨_, rfl⟩
          replace H : (aI.l1 k2 (Go.bits .or .u64 x3_2 (ji17)) l0_3 (l0_3.length : Int) (wrap64 (x23_2 + 1)) a0_0 a0_1 l0_2 l0_3) = some r := by first | (rw [hji17] at H; exact H) | (simp only [hji17] at H ⊢; exact H)
          (try rw [hji17] at A13)
          (try rw [hji17] at A14)
          have hji17_ : (IntKind.u64.wrap (1 * 2 ^ min (ji15).toNat 64)) = ji17 := hji17
          have hji17z : (ji15) ≤ 64 → (IntKind.u64.wrap (1 * 2 ^ (ji15).toNat)) = ji17 := fT hji17
          have hji17u : (IntKind.u64.wrap (2 ^ min (ji15).toNat 64)) = ji17 := by have h_ := hji17_; rw [Int.one_mul] at h_; exact h_
          have hji17v : (ji15) ≤ 64 → (IntKind.u64.wrap (2 ^ (ji15).toNat)) = ji17 := fun hle_ => by have h_ := hji17z hle_; rw [Int.one_mul] at h_; exact h_
          have H' := aa.mk H
          clear H
          have p117 : 0 ≤ (x23_2 : Int) := of_decide_eq_true (by first | (with_reducible assumption) | assumption)
          have q117 : x23_2 < (l0_3.length : Int) := of_decide_eq_true (by first | (with_reducible assumption) | assumption)
          obtain ⟨ad117, e117, rK⟩ := Kd.dv cF.out x23_2 p117 q117
          cases e117
          replace rK := (HB.out.cell (World.block_lt_of_cell? w _ rK)).trans rK
          replace p117 := eq_true p117
          replace q117 := eq_true q117
          have sA : wr.cell? ⟨iy, 0, none⟩ = some (.int .i64 a0_0) := (ai et.out 0).trans rfl
          have sy : wr.cell? ⟨iy, 1, none⟩ = some (.int .i64 a0_1) := (ai et.out 1).trans rfl
          have wN : wr.cell? ⟨iy, 2, none⟩ = some (.slice A0_2 l0_2.length c0_2) := (ai et.out 2).trans rfl
          have wM : wr.cell? ⟨iy, 3, none⟩ = some (.slice (some ad117) l0_3.length c0_3) := (ai et.out 3).trans rfl
          have rX := aj et.out 0
          have rV := aj et.out 1
          have we := aj et.out 2
          have wb := aj et.out 3
          go_wp2_with (first | ((with_reducible refine az (f := 39) rfl ?_); refine bI (some 29) rfl rfl Tryz.func39 (by kernel_rfl) rfl #[.agg #[.int .i64 a0_0, .int .i64 a0_1, .slice A0_2 l0_2.length c0_2, .slice (some ad117) l0_3.length c0_3]] rfl (by (try simp only [List.map_toArray, List.map_cons, List.map_nil]); first | done | rfl | (simp only [List.length_drop, List.length_take]; rfl)) ?_; (with_reducible refine (bN.calls a0_0 a0_1 _ _ l0_2 _ _ l0_3 t118 t119 _ ?side1 ?side2 ?side3 ?side4 A13.out).mono ?_); (case side1 => repeat (first | exact (Kd.ax cy.out HB.out) | (with_reducible refine Kd.aX ?_ _) | (with_reducible refine Kd.aW ?_ _) | (with_reducible refine Kd.bh ?_))); (case side2 => exact cD.out); (case side3 => repeat (first | exact (Kd.ax cF.out HB.out) | (with_reducible refine Kd.aX ?_ _) | (with_reducible refine Kd.aW ?_ _) | (with_reducible refine Kd.bh ?_))); (case side4 => exact cK.out); rintro e w19 ⟨rfl, hb⟩; refine ⟨_, rfl, ?_⟩; have n0_ := aa.mk (aD (g := iy) (o := .cells #[.int .i64 a0_0, .int .i64 a0_1, .slice A0_2 l0_2.length c0_2, .slice (some ad117) l0_3.length c0_3] 28 (0, 0)) (by (with_reducible repeat (first | refine al ?_ _ | refine ao ?_ | refine an ?_ _)); exact et.out) hb); have n1_ := aa.mk (ar (by repeat (first | (with_reducible first | exact HB.out | apply ag | apply af | apply ah | refine ak ?_ qh.out) | exact HB.out)) hb); clear et; clear HB; have et := n0_; have HB := n1_; clear n0_ n1_; (try clear hb); (try clear hb2); (try clear hk); (try clear hi)) | ((with_reducible refine az (f := 69) rfl ?_); refine bI (some 30) rfl rfl Tryz.func69 (by kernel_rfl) rfl #[.agg #[.int .i64 t118, .int .i64 t119]] rfl (by (try simp only [List.map_toArray, List.map_cons, List.map_nil]); first | done | rfl | (simp only [List.length_drop, List.length_take]; rfl)) ?_; (with_reducible refine (bu.calls t118 t119 t120 _ A14.out).mono ?_); rintro e w20 ⟨rfl, hb⟩; refine ⟨_, rfl, ?_⟩; have n0_ := aa.mk (aD (g := iy) (o := .cells #[.int .i64 a0_0, .int .i64 a0_1, .slice A0_2 l0_2.length c0_2, .slice (some ad117) l0_3.length c0_3] 28 (0, 0)) (by (with_reducible repeat (first | refine al ?_ _ | refine ao ?_ | refine an ?_ _)); exact et.out) hb); have n1_ := aa.mk (ar (by repeat (first | (with_reducible first | exact HB.out | apply ag | apply af | apply ah | refine ak ?_ qh.out) | exact HB.out)) hb); clear et; clear HB; have et := n0_; have HB := n1_; clear n0_ n1_; (try clear hb); (try clear hb2); (try clear hk); (try clear hi)))
          go_roundg k2
          case measure => have := HK1.out; have := HK2.out; omega
          case rel => exact ⟨(Go.bits .or .u64 x3_2 (ji17)), (wrap64 (x23_2 + 1)), (by first | rfl | (simp; done) | (simp only [← hji17] <;> (first | rfl | simp)) | (simp [*]; done)), (by first | rfl | (simp; done) | (simp [*]; done)), H', ⟨by have := HK1.out; have := HK2.out; omega⟩, ⟨by (with_reducible repeat (first | refine al ?_ _ | refine ao ?_ | refine an ?_ _)); exact et.out⟩, ⟨by repeat (first | (with_reducible first | exact HB.out | apply ag | apply af | apply ah | refine ak ?_ qh.out) | exact HB.out)⟩⟩
         ·rw [if_neg c16] at H
          exact absurd H (by simp)
        ·rw [if_neg c12] at H
         exact absurd H (by simp)
       ·rw [if_neg c11] at H
        exact absurd H (by simp)
      ·rw [if_neg c10] at H
       have c10b0 : decide (x23_2 < (l0_3.length : Int)) = false := decide_eq_false c10
       clear c10
       obtain rfl := Option.some.inj H
       go_wp2
       go_ret
       exact ⟨by first | rfl | (simp [av, au] <;> rfl) | (simp [*, av, au] <;> rfl), by repeat (first | (with_reducible first | exact HB.out | apply ag | apply af | apply ah | refine ak ?_ qh.out) | exact HB.out)⟩
end Go.Proofs.YtmjlmloomkodpaaGreatDoor.PA
namespace Go.Proofs.YtmjlmloomkodpaaGreatDoor.PA
open Go.RowKit Go.Proofs.ae.aw Go.Proofs.ae.aJ Go.Proofs.ae.aN
attribute [local go_sem] bo bm bC bB a6 aZ bn bj
set_option linter.unusedVariables false
set_option linter.unusedSimpArgs false
def dP.f (a0 : Int) : Option (Int) := if 0 ≤ a0 ∧ a0 < 18446744073709551616 then some ((Lib.ctz 64 a0.toNat : Nat) : Int) else none
theorem yA (x a : Nat) (hx : x < 18446744073709551616) (hx0 : x ≠ 0) (hlow : x &&& (18446744073709551616 - x) = a) :
  IntKind.u64.wrap (Go.bits BinOp.and IntKind.u64 (x : Int) (IntKind.u64.wrap (-(x : Int))) * 285870213051353865) / 288230376151711744 = ((a * 285870213051353865 % 18446744073709551616 / 288230376151711744 : Nat) : Int) := by
 have e1 : IntKind.u64.wrap (-(x : Int)) = ((18446744073709551616 - x : Nat) : Int) := by rw [IntKind.wrap_u64]; omega
 rw [e1, bits_and_u64_nat x _ hx (by omega), hlow, IntKind.wrap_u64]
 omega
set_option maxHeartbeats 1000000 in
theorem xC (x k idx : Nat) (w : World) (hx0 : ((x : Int) == 0) = false)
  (key : IntKind.u64.wrap (Go.bits BinOp.and IntKind.u64 (x : Int) (IntKind.u64.wrap (-(x : Int))) * 285870213051353865) / 288230376151711744 = (idx : Int))
  (hi : idx < 64) (hk : k < 64) (hcell : w.cell? ⟨0, idx, none⟩ = some (.int .u8 k)) :
  Calls Tryz.prog 106 #[.int .u64 x] w fun e w' => e = .returned (.int .i64 k) ∧ aK w w' := by
 go_enter Tryz.func106, Tryz.ntmps106
 go_wp2_with (simp only [key])
 go_ret
 exact ⟨rfl, aK.refl _⟩
theorem xB (w : World) :
  Calls Tryz.prog 106 #[.int .u64 0] w fun e w' => e = .returned (.int .i64 64) ∧ aK w w' := by
 go_enter Tryz.func106, Tryz.ntmps106
 go_wp2
 go_ret
 exact ⟨rfl, aK.refl _⟩
theorem dP.calls (a0 : Int) (r : Int) (w : World) (hT : ej w) (h : dP.f a0 = some r) :
  Calls Tryz.prog 106 #[.int .u64 a0] w fun e w' => e = .returned (.int .i64 r) ∧ aK w w' := by
 unfold dP.f at h
 split at h
 ·rename_i hr
  obtain ⟨x, rfl⟩ : ∃ x : Nat, a0 = (x : Int) := ⟨a0.toNat, by omega⟩
  have h := Option.some.inj h
  subst h
  rw [show ((x : Int)).toNat = x from rfl]
  have hx : x < 18446744073709551616 := by omega
  by_cases hx0 : x = 0
  ·subst hx0
   exact xB w
  ·obtain ⟨hlow, hk⟩ := Lib.lowest_bit 64 x hx0 hx
   obtain ⟨hi, htab⟩ := Lib.deBruijn64_at _ hk
   have hcell := hT.tab64 _ hi
   rw [htab] at hcell
   exact xC x _ _ w (by simp; omega) (yA x _ hx hx0 hlow) hi hk hcell
 ·cases h
end Go.Proofs.YtmjlmloomkodpaaGreatDoor.PA
namespace Go.Proofs.YtmjlmloomkodpaaGreatDoor.PA
open Go.RowKit Go.Proofs.ae.aw Go.Proofs.ae.aJ Go.Proofs.ae.aN
attribute [local go_sem] bo bm bC bB a6 aZ bn bj
set_option linter.unusedVariables false
set_option linter.unusedSimpArgs false
def ba.l0 : Nat → Int → List Int → Option (List Int)
 | 0, _, _ => none
 | k + 1, x0, x3 => if x0 > 0 then ((dP.f x0).bind fun t106 => (if x3.length < 17592186044416 then (ba.l0 k (Go.bits .and .u64 x0 (IntKind.u64.wrap (x0 - 1))) (x3 ++ [t106])) else (none))) else (some x3)
def ba.f (k : Nat) (a0 : Int) : Option (List Int) := ba.l0 k a0 (([] : List Int))
set_option maxHeartbeats 8000000 in
set_option maxRecDepth 100000 in
theorem ba.calls (k : Nat) (a0 : Int) (r : List Int) (w : World) (hT : ej w) (h : ba.f k a0 = some r) :
  Calls Tryz.prog 70 #[.int .u64 a0] w fun e w' => ∃ v0_ : Value, e = .returned (v0_) ∧ Kd.R (Kd.int .i64) 3 w' w.heap.size (fun _ => True) v0_ r ∧ Below w.heap.size w w' := by
 have HT := aa.mk hT
 clear hT
 have HB := aa.mk (Below.refl w.heap.size w)
 have H : (ba.l0 k a0 (([] : List Int))) = some r := h
 clear h
 obtain ⟨y103, hy103⟩ : ∃ y_ : List Int, y_ = (([] : List Int)) := ⟨_, rfl⟩
 replace H : (ba.l0 k a0 y103) = some r := by first | (rw [hy103]; with_reducible exact H) | (have H2_ := (Option.bind_some _ _).symm.trans H; rw [hy103]; with_reducible exact H2_) | (have H2_ := (Option.bind_some _ _).symm.trans H; with_reducible exact H2_) | with_reducible exact H | (rw [hy103]; exact H) | exact H
 have Ny103 := aa.mk hy103
 clear hy103
 have H' := aa.mk H
 clear H
 go_enter Tryz.func70, Tryz.ntmps70
 go_wp2_with (first | ((with_reducible refine aV (N := 4) rfl ?_); refine Kd.qa (Kd.int .i64) _ 3 ?hg (N := 4) ?hd (xs := ([] : List Int)) (inner := []) (ok := fun _ => True) (okp := fun _ => True) ?hr ?hp (fun _ hk => hk) trivial (Below.refl _ _) (Nat.le_refl _) (by simp) ?_; (case hd => rfl); (case hg => rfl); (case hr => first | (go_simp; done) | (go_simp; rfl)); (case hp => exact (gu.none _ _)); intro v104 w2 ho3 hb hg_ hnew_; clear hg_ hnew_; (first | rw [← Ny103.out] at ho3 | (simp only [Int.reduceToNat] at ho3; rw [← Ny103.out] at ho3)); have n0_ := aa.mk (Kd.cW ho3 (aq (by repeat (first | (with_reducible first | exact HB.out | apply ag | apply af | apply ah) | exact HB.out)))); have n1_ := aa.mk (ar (by repeat (first | (with_reducible first | exact HB.out | apply ag | apply af | apply ah) | exact HB.out)) hb); clear HB; have FL := n0_; have HB := n1_; clear n0_ n1_; clear hb ho3))
 go_loopg [0, 3] k (fun kq v0 v3 w' => ∃ (x0_1 : Int) (x3_1 : List Int), v0 = .int .u64 x0_1 ∧ aa (ba.l0 kq x0_1 x3_1 = some r) ∧ aa (kq ≤ k) ∧ aa (Kd.R (Kd.int .i64) 3 w' w.heap.size (fun _ => True) v3 x3_1) ∧ aa (Below w.heap.size w w'))
 case atStart => exact ⟨(a0), (y103), (by first | rfl | (simp; done) | (simp [*]; done)), H', ⟨Nat.le_refl _⟩, ⟨by (with_reducible repeat (first | apply Kd.aH | apply Kd.aG | apply Kd.aQ)); exact FL.out⟩, ⟨by repeat (first | (with_reducible first | exact HB.out | apply ag | apply af | apply ah) | exact HB.out)⟩⟩
 case round =>
  clear H'
  try clear p2
  obtain ⟨x0_1, x3_1, rfl, HA, HK1, lK, HB⟩ := hrel
  cases gk with
  | zero => exact absurd HA.out (by simp [ba.l0])
  | succ k1 =>
   have H := HA.out
   clear HA
   simp only [ba.l0] at H
   by_cases c4 : x0_1 > 0
   ·rw [if_pos c4] at H
    have c4b0 : decide (0 < x0_1) = true := decide_eq_true c4
    clear c4
    replace H := Option.bind_eq_some_iff.mp H
    obtain ⟨t106, A50, H⟩ := H
    replace H : (if x3_1.length < 17592186044416 then (ba.l0 k1 (Go.bits .and .u64 x0_1 (IntKind.u64.wrap (x0_1 - 1))) (x3_1 ++ [t106])) else (none)) = some r := H
    have A5 := aa.mk A50
    clear A50
    by_cases c6 : x3_1.length < 17592186044416
    ·rw [if_pos c6] at H
     have LMc6 := aa.mk c6
     clear c6
     obtain ⟨y107, hy107⟩ : ∃ y_ : List Int, y_ = (x3_1 ++ [t106]) := ⟨_, rfl⟩
     replace H : (ba.l0 k1 (Go.bits .and .u64 x0_1 (IntKind.u64.wrap (x0_1 - 1))) y107) = some r := by first | (rw [hy107]; with_reducible exact H) | (have H2_ := (Option.bind_some _ _).symm.trans H; rw [hy107]; with_reducible exact H2_) | (have H2_ := (Option.bind_some _ _).symm.trans H; with_reducible exact H2_) | with_reducible exact H | (rw [hy107]; exact H) | exact H
     have Ny107 := aa.mk hy107
     clear hy107
     have H' := aa.mk H
     clear H
     go_wp2_with (first | ((with_reducible refine az (f := 106) rfl ?_); refine bI (some 13) rfl rfl Tryz.func106 (by kernel_rfl) rfl #[.int .u64 x0_1] rfl (by (try simp only [List.map_toArray, List.map_cons, List.map_nil]); first | done | rfl | (simp only [List.length_drop, List.length_take]; rfl)) ?_; (with_reducible refine (dP.calls x0_1 t106 _ ?side1 A5.out).mono ?_); (case side1 => exact ej.below HT.out (by repeat (first | (with_reducible first | exact HB.out | apply ag | apply af | apply ah) | exact HB.out))); rintro e w' ⟨rfl, ⟨nd, rfl⟩⟩; refine ⟨_, rfl, ?_⟩) | ((with_reducible refine cH (b := .append) (xs := #[.tmp 11, .tmp 14]) rfl ?_); at_builtin; refine Kd.eb (Kd.int .i64) (w0 := w) w.heap.size rfl (.tmp 11) (.tmp 14) 22 3 (.int .i64 0) 8 rfl Tryz.underlying22 iY rfl (by decide) (by omega) u3 x3_1 t106 [.int .i64 t106] (fun _ => True) (fun _ => False) rfl rfl ?aP (fun _ hk => hk.elim) ?aF ?aO ?aB ?aS ?aL ?_; (case aP => exact rfl); (case aB => exact (by repeat (first | (with_reducible first | exact HB.out | apply ag | apply af | apply ah) | exact HB.out))); (case aF => exact (fun _ _ => trivial)); (case aO => exact (by (with_reducible repeat (first | apply Kd.aH | apply Kd.aG | apply Kd.aQ)); exact lK.out)); (case aS => exact (aq (by repeat (first | (with_reducible first | exact HB.out | apply ag | apply af | apply ah) | exact HB.out)))); (case aL => have := LMc6.out; omega); intro v108 w7 ho hb hg hat; rw [← Ny107.out] at ho; have n0_ := aa.mk (hb); have n1_ := aa.mk (ho); clear HB; clear lK; have HB := n0_; have FK := n1_; clear n0_ n1_; clear ho hb hg hat))
     go_roundg k1
     case measure => have := HK1.out; omega
     case rel => exact ⟨(Go.bits .and .u64 x0_1 (IntKind.u64.wrap (x0_1 - 1))), (y107), (by first | rfl | (simp; done) | (simp [*]; done)), H', ⟨by have := HK1.out; omega⟩, ⟨by (with_reducible repeat (first | apply Kd.aH | apply Kd.aG | apply Kd.aQ)); exact FK.out⟩, ⟨by repeat (first | (with_reducible first | exact HB.out | apply ag | apply af | apply ah) | exact HB.out)⟩⟩
    ·rw [if_neg c6] at H
     exact absurd H (by simp)
   ·rw [if_neg c4] at H
    have c4b0 : decide (0 < x0_1) = false := decide_eq_false c4
    clear c4
    obtain rfl := Option.some.inj H
    go_wp2
    go_ret
    exact ⟨_, by first | rfl | (simp [av, au] <;> rfl) | (simp [*, av, au] <;> rfl), by (with_reducible repeat (first | apply Kd.aH | apply Kd.aG | apply Kd.aQ)); exact lK.out, by repeat (first | (with_reducible first | exact HB.out | apply ag | apply af | apply ah) | exact HB.out)⟩
end Go.Proofs.YtmjlmloomkodpaaGreatDoor.PA
namespace Go.Proofs.YtmjlmloomkodpaaGreatDoor.PA
open Go.RowKit Go.Proofs.ae.aw Go.Proofs.ae.aJ Go.Proofs.ae.aN
attribute [local go_sem] bo bm bC bB a6 aZ bn bj
set_option linter.unusedVariables false
set_option linter.unusedSimpArgs false
def k7.f (a0 : Bool) : Option (Int) := if a0 = true then (some 1) else (some 0)
set_option maxHeartbeats 8000000 in
set_option maxRecDepth 100000 in
theorem k7.calls (a0 : Bool) (r : Int) (w : World) (h : k7.f a0 = some r) :
  Calls Tryz.prog 145 #[.bool a0] w fun e w' => e = .returned (.int .i64 r) ∧ aK w w' := by
 have H : (if a0 = true then (some 1) else (some 0)) = some r := h
 clear h
 by_cases c2 : a0 = true
 ·subst c2
  have H1 : (some 1) = some r := by rw [if_pos rfl] at H; exact H
  clear H
  have H := H1
  clear H1
  obtain rfl := Option.some.inj H
  go_enter Tryz.func145, Tryz.ntmps145
  go_wp2
  go_ret
  exact ⟨by first | rfl | (simp; done) | (simp [*]; done), by repeat (first | exact aK.refl _ | apply aK.step)⟩
 ·replace c2 := Bool.eq_false_iff.mpr c2
  subst c2
  have H1 : (some 0) = some r := by rw [if_neg (show ¬ (false = true) by decide)] at H; exact H
  clear H
  have H := H1
  clear H1
  obtain rfl := Option.some.inj H
  go_enter Tryz.func145, Tryz.ntmps145
  go_wp2
  go_ret
  exact ⟨by first | rfl | (simp; done) | (simp [*]; done), by repeat (first | exact aK.refl _ | apply aK.step)⟩
end Go.Proofs.YtmjlmloomkodpaaGreatDoor.PA
namespace Go.Proofs.YtmjlmloomkodpaaGreatDoor.PA
open Go.RowKit Go.Proofs.ae.aw Go.Proofs.ae.aJ Go.Proofs.ae.aN
attribute [local go_sem] bo bm bC bB a6 aZ bn bj
set_option linter.unusedVariables false
set_option linter.unusedSimpArgs false
def cG.l0 : Nat → Int → Int → List (dm) → Int → Int → Option (Int)
 | 0, _, _, _, _, _ => none
 | k + 1, x1, x5, x8, x9, x10 => if x10 < x9 then (if 0 ≤ x10 then (if x10 < (x8.length : Int) then ((k7.f ((Go.bits .andNot .u64 ((de x8 x10).f3) x1) == 0)).bind fun t123 => (cG.l0 k x1 (wrap64 (x5 + t123)) x8 x9 (wrap64 (x10 + 1)))) else (none)) else (none)) else (some x5)
def cG.f (k : Nat) (l0 : List (dm)) (a1 : Int) : Option (Int) := cG.l0 k a1 0 l0 (l0.length : Int) 0
set_option maxHeartbeats 8000000 in
set_option maxRecDepth 100000 in
theorem cG.calls (k : Nat) (A0 : Option Addr) (c0 : Nat) (l0 : List (dm)) (a1 : Int) (r : Int) (w : World) (hr0 : Kd.C gf w A0 l0.length l0) (hc0 : l0.length ≤ c0) (h : cG.f k l0 a1 = some r) :
  Calls Tryz.prog 111 #[.slice A0 l0.length c0, .int .u64 a1] w fun e w' => e = .returned (.int .i64 r) ∧ Below w.heap.size w w' := by
 have hu152 := Tryz.underlying152
 have HR0 := aa.mk hr0
 have HC0 := aa.mk hc0
 clear hr0 hc0
 have HB := aa.mk (Below.refl w.heap.size w)
 have H : (cG.l0 k a1 0 l0 (l0.length : Int) 0) = some r := h
 clear h
 have H' := aa.mk H
 clear H
 go_enter Tryz.func111, Tryz.ntmps111
 go_wp2
 go_loopg [5, 10] k (fun kq v5 v10 w' => ∃ (x5_1 : Int) (x10_1 : Int), v5 = .int .i64 x5_1 ∧ v10 = .int .i64 x10_1 ∧ aa (cG.l0 kq a1 x5_1 l0 (l0.length : Int) x10_1 = some r) ∧ aa (kq ≤ k) ∧ aa (Below w.heap.size w w'))
 case atStart => exact ⟨(0), (0), (by first | rfl | (simp; done) | (simp [*]; done)), (by first | rfl | (simp; done) | (simp [*]; done)), H', ⟨Nat.le_refl _⟩, ⟨by repeat (first | (with_reducible first | exact HB.out | apply ag | apply af | apply ah) | exact HB.out)⟩⟩
 case round =>
  clear H'
  try clear c1
  try clear p2
  obtain ⟨x5_1, x10_1, rfl, rfl, HA, HK1, HB⟩ := hrel
  cases gk with
  | zero => exact absurd HA.out (by simp [cG.l0])
  | succ k1 =>
   have H := HA.out
   clear HA
   simp only [cG.l0] at H
   by_cases c3 : x10_1 < (l0.length : Int)
   ·rw [if_pos c3] at H
    have c3b0 : decide (x10_1 < (l0.length : Int)) = true := decide_eq_true c3
    clear c3
    by_cases c4 : 0 ≤ x10_1
    ·rw [if_pos c4] at H
     have c4b0 : decide (0 ≤ x10_1) = true := decide_eq_true c4
     clear c4
     by_cases c5 : x10_1 < (l0.length : Int)
     ·rw [if_pos c5] at H
      have c5b0 : decide (x10_1 < (l0.length : Int)) = true := decide_eq_true c5
      clear c5
      replace H := Option.bind_eq_some_iff.mp H
      obtain ⟨t123, A60, H⟩ := H
      replace H : (cG.l0 k1 a1 (wrap64 (x5_1 + t123)) l0 (l0.length : Int) (wrap64 (x10_1 + 1))) = some r := H
      have A6 := aa.mk A60
      clear A60
      have H' := aa.mk H
      clear H
      have p121 : 0 ≤ (x10_1 : Int) := of_decide_eq_true (by first | (with_reducible assumption) | assumption)
      have q121 : x10_1 < (l0.length : Int) := of_decide_eq_true (by first | (with_reducible assumption) | assumption)
      obtain ⟨ad121, e121, rJ, rI, rH, rG⟩ := pd HR0.out x10_1 p121 q121
      cases e121
      replace rJ := (HB.out.cell (World.block_lt_of_cell? w _ rJ)).trans rJ
      replace rI := (HB.out.cell (World.block_lt_of_cell? w _ rI)).trans rI
      replace rH := (HB.out.cell (World.block_lt_of_cell? w _ rH)).trans rH
      replace rG := (HB.out.cell (World.block_lt_of_cell? w _ rG)).trans rG
      replace p121 := eq_true p121
      replace q121 := eq_true q121
      go_wp2_with (first | ((with_reducible refine aV (N := 7) rfl ?_); refine aM ?hg (N := 7) ?hd (cs := #[.int .i64 0, .int .i64 0, .int .i64 0, .int .u64 0]) (t := 152) ?hr ?_; (case hd => rfl); (case hg => rfl); (case hr => first | (go_simp; done) | (go_simp; rfl)); intro qV hg w7 hbox hb; have n0_ := aa.mk (ar (by repeat (first | (with_reducible first | exact HB.out | apply ag | apply af | apply ah) | exact HB.out)) hb); have n1_ := aa.mk (hbox); have n2_ := aa.mk ((by rw [hg]; exact (aq (by repeat (first | (with_reducible first | exact HB.out | apply ag | apply af | apply ah) | exact HB.out))) : w.heap.size ≤ qV)); have n3_ := aa.mk ((by rw [hg]; exact (aq (by repeat (first | (with_reducible first | exact HB.out | apply ag | apply af | apply ah) | exact HB.out))) : w.heap.size ≤ qV)); clear HB; have HB := n0_; have oB := n1_; have GW122 := n2_; have Gi := n3_; clear n0_ n1_ n2_ n3_; clear hb hbox hg; have ln : w7.cell? ⟨qV, 0, none⟩ = some (.int .i64 0) := (ai oB.out 0).trans rfl; have ll : w7.cell? ⟨qV, 1, none⟩ = some (.int .i64 0) := (ai oB.out 1).trans rfl; have mH : w7.cell? ⟨qV, 2, none⟩ = some (.int .i64 0) := (ai oB.out 2).trans rfl; have mG : w7.cell? ⟨qV, 3, none⟩ = some (.int .u64 0) := (ai oB.out 3).trans rfl; have k9 := aj oB.out 0; have k8 := aj oB.out 1; have mF := aj oB.out 2; have mE := aj oB.out 3) | ((with_reducible refine az (f := 145) rfl ?_); refine bI (some 20) rfl rfl Tryz.func145 (by kernel_rfl) rfl #[.bool ((Go.bits .andNot .u64 ((de l0 x10_1).f3) a1) == 0)] rfl (by (try simp only [List.map_toArray, List.map_cons, List.map_nil]); first | done | rfl | (simp only [List.length_drop, List.length_take]; rfl)) ?_; (with_reducible refine (k7.calls ((Go.bits .andNot .u64 ((de l0 x10_1).f3) a1) == 0) t123 _ A6.out).mono ?_); rintro e w' ⟨rfl, ⟨nd, rfl⟩⟩; refine ⟨_, rfl, ?_⟩))
      go_roundg k1
      case measure => have := HK1.out; omega
      case rel => exact ⟨(wrap64 (x5_1 + t123)), (wrap64 (x10_1 + 1)), (by first | rfl | (simp; done) | (simp [*]; done)), (by first | rfl | (simp; done) | (simp [*]; done)), H', ⟨by have := HK1.out; omega⟩, ⟨by repeat (first | (with_reducible first | exact HB.out | apply ag | apply af | apply ah | refine ak ?_ Gi.out) | exact HB.out)⟩⟩
     ·rw [if_neg c5] at H
      exact absurd H (by simp)
    ·rw [if_neg c4] at H
     exact absurd H (by simp)
   ·rw [if_neg c3] at H
    have c3b0 : decide (x10_1 < (l0.length : Int)) = false := decide_eq_false c3
    clear c3
    obtain rfl := Option.some.inj H
    go_wp2
    go_ret
    exact ⟨by first | rfl | (simp [av, au] <;> rfl) | (simp [*, av, au] <;> rfl), by repeat (first | (with_reducible first | exact HB.out | apply ag | apply af | apply ah) | exact HB.out)⟩
end Go.Proofs.YtmjlmloomkodpaaGreatDoor.PA
namespace Go.Proofs.YtmjlmloomkodpaaGreatDoor.PA
open Go.RowKit Go.Proofs.ae.aw Go.Proofs.ae.aJ Go.Proofs.ae.aN
attribute [local go_sem] bo bm bC bB a6 aZ bn bj
set_option linter.unusedVariables false
set_option linter.unusedSimpArgs false
def fp (s : Int) (q : dm) : Bool := Go.bits .andNot .u64 q.f3 s == 0
def kB.f (l0 : List (dm)) (a1 : Int) : Option (List (dm)) := if l0.length < 1048576 then some (l0.filter (fp a1)) else none
def Cu (q : dm) : Value := .agg #[.int .i64 q.f0, .int .i64 q.f1, .int .i64 q.f2, .int .u64 q.f3]
set_option maxHeartbeats 1000000 in
theorem vy (q : dm) (s : Int) (b : Nat) (W : World) (h1 : W.cell? ⟨b, 0, none⟩ = some (.int .u64 s)) :
  Calls Tryz.prog 173 #[Cu q, .pointer (some ⟨b, 0, none⟩)] W fun e w' => e = .returned (.bool (!(fp s q))) ∧ Below W.heap.size W w' := by
 obtain ⟨q0, q1, q2, q3⟩ := q
 unfold Cu
 have hb : b < W.heap.size := World.block_lt_of_cell? W _ h1
 have hbn : b ≠ W.heap.size := by omega
 have h2 : (W.alloc (.cells #[.int .i64 q0, .int .i64 q1, .int .i64 q2, .int .u64 q3] 152)).cell? ⟨b, 0, none⟩ = some (.int .u64 s) := ((ag (Below.refl _ _) _).cell hb).trans h1
 clear h1
 have hK := aa.mk (show (Go.bits .andNot .u64 q3 s != 0) = !(fp s ⟨q0, q1, q2, q3⟩) from rfl)
 have HB := aa.mk (ag (Below.refl W.heap.size W) (.cells #[.int .i64 q0, .int .i64 q1, .int .i64 q2, .int .u64 q3] 152))
 go_enter Tryz.func173, Tryz.ntmps173
 go_wp2
 go_ret
 exact ⟨congrArg (fun b => Ending.returned (Value.bool b)) hK.out, HB.out⟩
def IdxQ (p : dm → Bool) (l0 : List (dm)) (i : Int) : Prop := (i = -1 ∧ l0.any p = false) ∨ ∃ m : Nat, i = m ∧ m < l0.length ∧ p (de l0 m) = true ∧ (l0.take m).any p = false
theorem pW (p : dm → Bool) (l : List (dm)) (k : Nat) (h : k < l.length) : (l.take (k + 1)).any p = ((l.take k).any p || p (de l k)) := by
 rw [List.take_succ_eq_append_getElem h, List.any_append]
 simp [de, h]
set_option maxHeartbeats 4000000 in
set_option maxRecDepth 100000 in
theorem ta.calls (A0 : Option Addr) (c0 : Nat) (l0 : List (dm)) (g : Nat) (lb : Array Value) (p : dm → Bool) (w : World) (eg : ∀ args w, (callFunc g args).run Tryz.prog w = .ok (.enter g args) w)
  (hr0 : Kd.C gf w A0 l0.length l0) (hp : ∀ x W, Below w.heap.size w W → Calls Tryz.prog g (#[Cu x] ++ lb) W fun e w' => e = .returned (.bool (p x)) ∧ Below W.heap.size W w') :
  Calls Tryz.prog 203 #[.slice A0 l0.length c0, .func (.func g) #[] lb] w fun e w' => (∃ i : Int, e = .returned (.int .i64 i) ∧ IdxQ p l0 i) ∧ Below w.heap.size w w' := by
 have HR0 := aa.mk hr0
 have HP := aa.mk hp
 clear hr0 hp
 have hbig : l0.length ≤ 9223372036854775807 := HR0.out.2.1
 go_enter Tryz.func203, Tryz.ntmps203
 go_wp2
 go_loopg [5, 8] l0.length (fun gg _ s8 wr => ∃ kk : Nat, kk ≤ l0.length ∧ l0.length - kk ≤ gg ∧ s8 = .int .i64 kk ∧ aa (Below w.heap.size w wr) ∧ aa ((l0.take kk).any p = false))
 case atStart => exact ⟨0, Nat.zero_le _, by omega, rfl, ⟨Below.refl _ _⟩, ⟨rfl⟩⟩
 case round =>
  obtain ⟨kk, hkk, hg, rfl, HB, HA⟩ := hrel
  by_cases hlt : kk < l0.length
  ·have hltz : (kk : Int) < (l0.length : Int) := by omega
   obtain ⟨ad, had, c0', c1', c2', c3'⟩ := pd (Kd.ax HR0.out HB.out) kk (by omega) hltz
   subst had
   have HS := aa.mk (pW p l0 kk hlt)
   have HY := aa.mk (rfl : de l0 kk = de l0 kk)
   generalize hy : de l0 kk = y at c0' c1' c2' c3' HS HY
   have HYY := aa.mk hy
   clear hy HY
   have d0 : wr.cell? (ad.add (kk * 4)) = some (.int .i64 y.f0) := c0'
   have d1 : wr.cell? ⟨(ad.add (kk * 4)).block, (ad.add (kk * 4)).off + 1, none⟩ = some (.int .i64 y.f1) := c1'
   have d2 : wr.cell? ⟨(ad.add (kk * 4)).block, (ad.add (kk * 4)).off + 2, none⟩ = some (.int .i64 y.f2) := c2'
   have d3 : wr.cell? ⟨(ad.add (kk * 4)).block, (ad.add (kk * 4)).off + 3, none⟩ = some (.int .u64 y.f3) := c3'
   clear c0' c1' c2' c3'
   have HCL := aa.mk (HP.out y)
   cases hq : p y with
   | true =>
    have HQ := aa.mk hq
    clear hq
    go_wp2_with (go_at_fn g; refine (HCL.out _ HB.out).mono ?_; rw [HQ.out]; rintro e w' ⟨rfl, hb⟩; have B1 := aa.mk (HB.out.trans (hb.mono HB.out.size)); clear hb)
    go_ret
    exact ⟨⟨_, rfl, .inr ⟨kk, rfl, hlt, by rw [HYY.out]; exact HQ.out, HA.out⟩⟩, B1.out⟩
   | false =>
    have HQ := aa.mk hq
    have HS' := aa.mk (HS.out.trans (by first | rw [hq, HA.out, Bool.or_false] | rw [hq, HA.out] | (rw [hq, HA.out]; rfl)))
    clear hq HS
    go_wp2_with (go_at_fn g; refine (HCL.out _ HB.out).mono ?_; rw [HQ.out]; rintro e w' ⟨rfl, hb⟩; have B1 := aa.mk (HB.out.trans (hb.mono HB.out.size)); clear hb)
    go_roundg (l0.length - (kk + 1))
    case measure => omega
    case rel => exact ⟨kk + 1, by omega, by omega, by go_num, B1, HS'⟩
  ·have hltz : ¬ (kk : Int) < (l0.length : Int) := by omega
   have hke : kk = l0.length := by omega
   have HA' := aa.mk (show l0.any p = false by have := HA.out; rw [hke, List.take_length] at this; exact this)
   clear hke
   go_wp2
   go_ret
   exact ⟨⟨_, rfl, .inl ⟨rfl, HA'.out⟩⟩, HB.out⟩
theorem xQ {w : World} {base g n cap size : Nat} {e : TypeId} {xs vs : List Value} (h : w.ownsRow base e size (.slice (some ⟨g, 0, none⟩) n cap) n xs) (o : Nat) (ho : n * size ≤ o) (hfit : o + vs.length ≤ cap * size) : (w.setCells g o vs).ownsRow base e size (.slice (some ⟨g, 0, none⟩) n cap) n xs := by
 obtain ⟨h1, h2⟩ := h
 refine ⟨h1, ?_⟩
 rcases h2 with ⟨he, h0⟩ | ⟨g', cap', cur, he, hb, hh, hnc, hcm, hcs, ht⟩
 ·cases he
 ·injection he with ha _ hc
  injection ha with ha
  injection ha with ha
  subst ha; subst hc
  obtain ⟨cur', h3, h4, h5⟩ := kx vs o w cur hh (by omega)
  refine .inr ⟨g, cap, cur', rfl, hb, h3, hnc, hcm, by omega, ?_⟩
  rw [h5, List.append_assoc, List.take_append_of_le_length (by rw [List.length_take]; have : cur.toList.length = cur.size := Array.length_toList; omega), List.take_take, Nat.min_eq_left ho]
  exact ht
theorem Cy {α : Type} {d : Kd α} {e : Nat} {W : World} {base g n cap : Nat} {xs : List α} {vs : List Value} (hE : d.E = []) (h : d.R e W base (fun _ => True) (.slice (some ⟨g, 0, none⟩) n cap) xs) (o : Nat) (ho : n * d.sz ≤ o) (hfit : o + vs.length ≤ cap * d.sz) : d.R e (W.setCells g o vs) base (fun _ => True) (.slice (some ⟨g, 0, none⟩) n cap) xs := by
 have hn : n = xs.length := (Kd.bZ h).1
 subst hn
 obtain ⟨h0, inner, hown, hr⟩ := h
 refine ⟨h0, inner, xQ hown o ho hfit, hr.ma (fun p c hp => d.M_mono (fun k hk => ?_) (d.M_move (w1 := W.setCells g o vs) (fun k hk => ?_) (d.M_bound hp)))⟩
 ·exact hk.1
 ·obtain ⟨_, _, _, q, hq, _⟩ := hk
  rw [hE] at hq
  cases hq
theorem oI {P : Program} (w : World) (t e ty : TypeId) (z : Value) (ht : P.underlying t = some (.slice e)) (hv : ∀ w, (zeroValue e).run P w = .ok z w) (b o n c : Nat) (hn : 0 < n) (vs : List Value) (hvs : (Builtin.zeroCells z.cells n).toList = vs) (h1 : ∀ v ∈ vs, v.oneCell' = true)
  (hc : ∀ j, j < vs.length → (w.cell? ⟨b, o + j, none⟩).isSome = true) (hf : ∀ j, j < vs.length → w.frozen? ⟨b, o + j, none⟩ = false) :
  (Builtin.clear_ #[t] ty #[.slice (some ⟨b, o, none⟩) n c]).run P w = .ok (.tuple #[]) (w.setCells b o vs) := by
 have hst := run_storeCells_cells (P := P) b o vs 0 w (by simpa using hc) (by simpa using hf) h1
 simp only [Nat.add_zero] at hst
 obtain ⟨m, rfl⟩ : ∃ m, n = m + 1 := ⟨n - 1, by omega⟩
 simp [Builtin.clear_, run_underlying ht, hv, hvs, hst]
set_option maxHeartbeats 4000000 in
set_option maxRecDepth 100000 in
theorem Aa.calls (A0 : Option Addr) (c0 : Nat) (l0 : List (dm)) (w : World) (hr0 : Kd.C gf w A0 l0.length l0) (hc0 : l0.length ≤ c0) (hlen : l0.length < 1048576) :
  Calls Tryz.prog 172 #[.slice A0 l0.length c0] w fun e w' => ∃ v : Value, e = .returned v ∧ Kd.R gf 152 w' w.heap.size (fun _ => True) v l0 ∧ Below w.heap.size w w' := by
 have HR := aa.mk hr0
 clear hr0
 cases A0 with
 | none =>
  have h0 : l0 = [] := by
   rcases Nat.eq_zero_or_pos l0.length with h | h
   ·exact List.eq_nil_of_length_eq_zero h
   ·obtain ⟨ad, h, _⟩ := HR.out.2.2 h
    cases h
  subst h0
  clear HR
  have he : ∀ W : World, (binOp .eql 122 (.slice none 0 c0) (.slice none 0 0)).run Tryz.prog W = .ok (.bool true) W := fun W => Lib.run_eql_slice_nil W 122 152 _ _ _ _ _ Tryz.underlying122
  go_enter Tryz.func172, Tryz.ntmps172
  go_wp2
  go_ret
  exact ⟨_, rfl, Kd.ir _ _ _ _ _, Below.refl _ _⟩
 | some ad =>
  have he : ∀ W : World, (binOp .eql 122 (.slice (some ad) l0.length c0) (.slice none 0 0)).run Tryz.prog W = .ok (.bool false) W := fun W => Lib.run_eql_slice_nil W 122 152 _ _ _ _ _ Tryz.underlying122
  have HLEN := aa.mk hlen
  clear hlen
  go_enter Tryz.func172, Tryz.ntmps172
  go_wp2_with (first | ((with_reducible refine aV (N := 5) rfl ?_); refine Kd.qa gf _ 152 ?hg (N := 5) ?hd (xs := ([] : List (dm))) (inner := []) (ok := fun _ => True) (okp := fun _ => True) ?hr ?hp (fun _ hk => hk) trivial (Below.refl _ _) (Nat.le_refl _) (by simp) ?_; (case hd => rfl); (case hg => rfl); (case hr => first | (go_simp; done) | (go_simp; rfl)); (case hp => exact (gu.none _ _)); intro v0 w2 ho3 hb3 hg_ hnew_; obtain ⟨Ae, ce, hve⟩ := Kd.bE ho3; simp only [List.length_nil] at hve; subst hve; have O0 := aa.mk ho3; have B0 := aa.mk hb3; clear ho3 hb3 hg_ hnew_) | ((with_reducible refine cH (b := .append) (xs := #[.tmp 5, .tmp 6]) rfl ?_); refine Kd.qG gf (Rr := gf.K w) (w0 := w) w.heap.size rfl (.tmp 5) (.tmp 6) 122 152 (.agg #[.int .i64 0, .int .i64 0, .int .i64 0, .int .u64 0]) 32 rfl Tryz.underlying122 rC rfl (by decide) (by omega) (.slice Ae 0 ce) [] l0 (some ad) l0.length c0 (fun _ => True) (fun _ => False) rfl rfl ?aO ?aR (fun x cs hk => hk) (fun _ hk => hk.elim) (fun _ _ => trivial) ?aB ?aS (by have := HLEN.out; simp; omega) ?_; (case aO => exact O0.out); (case aR => exact Kd.ax HR.out B0.out); (case aB => exact B0.out); (case aS => exact B0.out.size); intro v1 w1 ho hb1 hgr hat; have O1 := aa.mk ho; have B1 := aa.mk hb1; clear ho hb1 hgr hat))
  go_ret
  exact ⟨_, rfl, O1.out, B1.out⟩
theorem za : (Tryz.prog.info? 152).map (·.size) = some 4 := by kernel_rfl
theorem yx : ∀ w : World, (zeroValue 152).run Tryz.prog w = .ok (.agg #[.int .i64 0, .int .i64 0, .int .i64 0, .int .u64 0]) w := fun _ => by kernel_rfl
theorem Dg (z0 : Array Value) (n : Nat) : (Builtin.zeroCells z0 n).toList.length = n * z0.size := by simp [Builtin.zeroCells]
theorem ng (p : dm → Bool) (l : List (dm)) (k : Nat) (h : k < l.length) : (l.take (k + 1)).filter p = (l.take k).filter p ++ (if p (de l k) = true then [de l k] else []) := by
 rw [List.take_succ_eq_append_getElem h, List.filter_append]
 have : de l k = l[k] := by simp [de, h]
 rw [this]
 by_cases hp : p l[k] = true <;> simp [hp]
theorem xE (ys : List (dm)) (ii : Nat) (y : dm) (h : ii < ys.length) : (ys.set ii y).take (ii + 1) = ys.take ii ++ [y] := by
 rw [List.take_succ_eq_append_getElem (by simpa using h), List.take_set_of_le (Nat.le_refl _)]
 simp
theorem filter_all (s : Int) (l : List (dm)) (h : l.any (fun q => !(fp s q)) = false) : l.filter (fp s) = l := by
 rw [List.filter_eq_self]
 intro q hq
 rw [List.any_eq_false] at h
 have := h q hq
 simpa using this
theorem AE {l ys : List (dm)} {jj : Nat} (h : ys.drop jj = l.drop jj) (hj : jj < l.length) (hy : ys.length = l.length) : de ys jj = de l jj := by
 have h1 := congrArg (fun x : List (dm) => x[0]?) h
 simp only [List.getElem?_drop, Nat.add_zero] at h1
 simp [de, List.getD_eq_getElem?_getD, h1]
set_option maxHeartbeats 8000000 in
set_option maxRecDepth 100000 in
theorem qJ.calls (A0 : Option Addr) (c0 : Nat) (l0 : List (dm)) (s : Int) (b : Nat) (base : Nat) (w0 w : World) (hR : Kd.R gf 152 w base (fun _ => True) (.slice A0 l0.length c0) l0) (hs : w.cell? ⟨b, 0, none⟩ = some (.int .u64 s)) (hbg : ∀ k, (Value.slice A0 l0.length c0).ownBlock = some k → k ≠ b) (hB : Below base w0 w) (hbs : base ≤ w.heap.size) :
  Calls Tryz.prog 171 #[.slice A0 l0.length c0, .func (.func 173) #[] #[.pointer (some ⟨b, 0, none⟩)]] w fun e w' => ∃ v : Value, e = .returned v ∧ Kd.R gf 152 w' base (fun _ => True) v (l0.filter (fp s)) ∧ Below base w0 w' := by
 have HR := aa.mk hR
 have HS := aa.mk hs
 have HB := aa.mk hB
 have HBG := aa.mk hbg
 have hbl : b < w.heap.size := World.block_lt_of_cell? w _ hs
 clear hR hs hB hbg
 have hbig : l0.length ≤ 9223372036854775807 := (Kd.bZ HR.out).2.2.2.1
 have HIX := aa.mk (ta.calls A0 c0 l0 173 #[.pointer (some ⟨b, 0, none⟩)] (fun q => !(fp s q)) w (enters_of Tryz.func173 (by kernel_rfl) rfl) (Kd.bZ HR.out).2.2 (fun x W hb => vy x s b W ((hb.cell hbl).trans HS.out)))
 go_enter Tryz.func171, Tryz.ntmps171
 go_wp2_with fail
 refine HIX.out.mono ?_
 rintro e w1 ⟨⟨i, rfl, hi⟩, hb⟩
 have HB1 := aa.mk (HB.out.trans (hb.mono hbs))
 have HR1 := aa.mk (Kd.cx HR.out hb)
 have HS1 := aa.mk ((hb.cell (p := ⟨b, 0, none⟩) hbl).trans HS.out)
 clear hb HIX HR HS HB
 rcases hi with ⟨rfl, hall⟩ | ⟨m, rfl, hm, hpm, hall⟩
 ·have HF := aa.mk (filter_all s l0 hall)
  clear hall
  go_wp2
  go_ret
  exact ⟨_, rfl, by rw [HF.out]; exact HR1.out, HB1.out⟩
 ·have HF := aa.mk (filter_all s (l0.take m) hall)
  have HPM := aa.mk (show fp s (de l0 m) = false by simpa using hpm)
  clear hall hpm
  obtain ⟨g, cap, hv, hgb, hgl, _⟩ := Kd.nP HR1.out (by omega)
  injection hv with hv1 hv2 hv3
  subst hv1
  subst hv3
  have HGB := aa.mk (HBG.out g (by simp [Value.ownBlock]))
  clear HBG
  obtain ⟨ad, had⟩ : ∃ ad : Addr, ad = ⟨g, 0, none⟩ := ⟨_, rfl⟩
  have HAD := aa.mk had
  have HR2 := aa.mk (show Kd.R gf 152 w1 base (fun _ => True) (.slice (some ad) l0.length c0) l0 by rw [had]; exact HR1.out)
  rw [← had]
  clear had HR1
  have hne : ((m : Int) == -1) = false := by rw [beq_eq_false_iff_ne]; omega
  have hmb : (m : Int) < 9223372036854775807 := by omega
  have H0 := aa.mk (show l0.take m = (l0.take (m + 1)).filter (fp s) by rw [ng _ _ _ hm, HPM.out, HF.out]; simp)
  clear HF HPM
  go_wp2
  go_loopg [5, 6, 7] l0.length (fun gg s5 s6 _ wr => ∃ (jj ii : Nat) (ys : List (dm)), jj ≤ l0.length ∧ ii < jj ∧ l0.length - jj ≤ gg ∧ s5 = .int .i64 (ii : Int) ∧ s6 = .int .i64 (jj : Int) ∧ aa (Kd.R gf 152 wr base (fun _ => True) (.slice (some ad) l0.length c0) ys) ∧ aa (ys.length = l0.length) ∧ aa (ys.take ii = (l0.take jj).filter (fp s)) ∧ aa (ys.drop jj = l0.drop jj) ∧ aa (wr.cell? ⟨b, 0, none⟩ = some (.int .u64 s)) ∧ aa (Below base w0 wr))
  case atStart => exact ⟨m + 1, m, l0, by omega, by omega, by omega, rfl, by go_num, HR2, ⟨rfl⟩, H0, ⟨rfl⟩, HS1, HB1⟩
  case round =>
   clear HR2 H0 HS1 HB1 hmb hne
   obtain ⟨jj, ii, ys, hjj, hij, hgk, rfl, rfl, HO, HL, HT, HD, HS, HB⟩ := hrel
   by_cases hlt : jj < l0.length
   ·have hltz : (jj : Int) < (l0.length : Int) := by omega
    have hyl : (jj : Int) < (ys.length : Int) := by rw [HL.out]; omega
    have HC := aa.mk (show Kd.C gf wr (some ad) ys.length ys from (Kd.bZ HO.out).2.2)
    obtain ⟨ad', had', c0', c1', c2', c3'⟩ := pd HC.out jj (by omega) hyl
    injection had' with had'
    subst had'
    have HYE := aa.mk (AE HD.out hlt HL.out)
    have HY2 := aa.mk (ng (fp s) l0 jj hlt)
    have HD2 := aa.mk (show ys.drop (jj + 1) = l0.drop (jj + 1) by rw [← List.drop_drop, ← List.drop_drop, HD.out])
    rw [HYE.out] at c0' c1' c2' c3'
    clear HYE HC hyl
    generalize de l0 jj = y at c0' c1' c2' c3' HY2
    have d0 : wr.cell? (ad.add (jj * 4)) = some (.int .i64 y.f0) := c0'
    have d1 : wr.cell? ⟨(ad.add (jj * 4)).block, (ad.add (jj * 4)).off + 1, none⟩ = some (.int .i64 y.f1) := c1'
    have d2 : wr.cell? ⟨(ad.add (jj * 4)).block, (ad.add (jj * 4)).off + 2, none⟩ = some (.int .i64 y.f2) := c2'
    have d3 : wr.cell? ⟨(ad.add (jj * 4)).block, (ad.add (jj * 4)).off + 3, none⟩ = some (.int .u64 y.f3) := c3'
    clear c0' c1' c2' c3'
    have hbl2 : b < wr.heap.size := World.block_lt_of_cell? wr _ HS.out
    have HB2 := aa.mk (show base ≤ wr.heap.size from Nat.le_trans hgb (Nat.le_of_lt (by have h1 := Kd.ko HO.out ad.block (by simp [Value.ownBlock]); rw [HAD.out] at h1; exact h1)))
    have HPC := aa.mk (fun W h => vy y s b W h)
    cases hq : fp s y with
    | true =>
     rw [hq] at HPC
     have HT2 := aa.mk (show (l0.take (jj + 1)).filter (fp s) = (l0.take jj).filter (fp s) ++ [y] by rw [HY2.out, hq]; rfl)
     clear HY2 hq
     go_wp2_with (first | (go_at_call 173; refine (HPC.out _ ?hcell).mono ?_; (case hcell => exact ((ag (Below.refl _ _) _).cell hbl2).trans HS.out); rintro e w2 ⟨rfl, hb⟩; have e0 : w2.cell? ⟨wr.heap.size, 0, none⟩ = some (.int .i64 y.f0) := (hb.cell (by simp)).trans (by simp); have e1 : w2.cell? ⟨wr.heap.size, 1, none⟩ = some (.int .i64 y.f1) := (hb.cell (by simp)).trans (by simp); have e2 : w2.cell? ⟨wr.heap.size, 2, none⟩ = some (.int .i64 y.f2) := (hb.cell (by simp)).trans (by simp); have e3 : w2.cell? ⟨wr.heap.size, 3, none⟩ = some (.int .u64 y.f3) := (hb.cell (by simp)).trans (by simp); have BW := aa.mk ((ag (Below.refl wr.heap.size wr) _).trans (hb.mono (by simp))); clear hb) | ((with_reducible refine EH (.store 152 (.tmp 33) (.tmp 32)) rfl ?_); have HOg : Kd.R gf 152 w2 base (fun _ => True) (.slice (some ⟨g, 0, none⟩) l0.length c0) ys := (by have h1 := Kd.cx HO.out BW.out; rw [HAD.out] at h1; exact h1); obtain ⟨cc, hc1, hc2, hc3, hc4⟩ := Kd.vi HOg z152 (ii : Int) (by omega) (by omega); refine Kd.Cw gf (w0 := w0) base rfl rfl 152 (.tmp 33) (.tmp 32) rfl 152 (g := g) (n := l0.length) (cap := c0) (o' := ii * 4) (ii : Int) 0 ys y (Cu y) [.int .i64 y.f0, .int .i64 y.f1, .int .i64 y.f2, .int .u64 y.f3] cc (fun _ => True) (fun _ => False) ?haddr rfl rfl rfl za ?h1 HOg (by omega) (by omega) hc1 hc3 (Nat.le_refl _) ?hM (fun _ hk => hk.elim) (HB.out.trans (BW.out.mono HB2.out)) ?_; (case haddr => show Value.pointer (some (ad.add (ii * 4))) = _; rw [HAD.out, add_plain]); (case h1 => intro q hq; simp at hq; rcases hq with rfl | rfl | rfl | rfl <;> rfl); (case hM => have e5 : cc.drop (0 + 4) = [] := List.drop_eq_nil_of_le (by rw [hc1]; exact Nat.le_refl _); (show gf.M _ _ _ y (cc.take 0 ++ _ ++ cc.drop (0 + 4))); rw [e5]; exact tK _ _ _ y); intro w3 ho hb3 hgr; have O1 := aa.mk (show Kd.R gf 152 w3 base (fun _ => True) (.slice (some ad) l0.length c0) (ys.set ii y) by rw [HAD.out]; exact ho); have B1 := aa.mk hb3; have S1 := aa.mk (show w3.cell? ⟨b, 0, none⟩ = some (.int .u64 s) from (World.cell?_of_block (w := w2) (hgr.block b (Nat.lt_of_lt_of_le hbl2 BW.out.size) (fun e => HGB.out (by injection e with e; exact e.symm)))).trans ((BW.out.cell (p := ⟨b, 0, none⟩) hbl2).trans HS.out)); clear ho hb3 hgr HOg hc1 hc2 hc3 hc4))
     go_roundg (l0.length - (jj + 1))
     case measure => omega
     case rel => exact ⟨jj + 1, ii + 1, ys.set ii y, by omega, by omega, by omega, by go_num, by go_num, O1, ⟨by rw [List.length_set]; exact HL.out⟩, ⟨by rw [HT2.out, ← HT.out]; exact xE ys ii y (by rw [HL.out]; omega)⟩, ⟨by rw [List.drop_set_of_lt (by omega)]; exact HD2.out⟩, S1, B1⟩
    | false =>
     rw [hq] at HPC
     have HT2 := aa.mk (show (l0.take (jj + 1)).filter (fp s) = (l0.take jj).filter (fp s) by rw [HY2.out, hq]; simp)
     clear HY2 hq
     go_wp2_with (go_at_call 173; refine (HPC.out _ ?hcell).mono ?_; (case hcell => exact ((ag (Below.refl _ _) _).cell hbl2).trans HS.out); rintro e w2 ⟨rfl, hb⟩; have e0 : w2.cell? ⟨wr.heap.size, 0, none⟩ = some (.int .i64 y.f0) := (hb.cell (by simp)).trans (by simp); have e1 : w2.cell? ⟨wr.heap.size, 1, none⟩ = some (.int .i64 y.f1) := (hb.cell (by simp)).trans (by simp); have e2 : w2.cell? ⟨wr.heap.size, 2, none⟩ = some (.int .i64 y.f2) := (hb.cell (by simp)).trans (by simp); have e3 : w2.cell? ⟨wr.heap.size, 3, none⟩ = some (.int .u64 y.f3) := (hb.cell (by simp)).trans (by simp); have BW := aa.mk ((ag (Below.refl wr.heap.size wr) _).trans (hb.mono (by simp))); clear hb)
     go_roundg (l0.length - (jj + 1))
     case measure => omega
     case rel => exact ⟨jj + 1, ii, ys, by omega, by omega, by omega, by go_num, by go_num, ⟨Kd.cx HO.out BW.out⟩, HL, ⟨by rw [HT2.out]; exact HT.out⟩, HD2, ⟨(BW.out.cell (p := ⟨b, 0, none⟩) hbl2).trans HS.out⟩, ⟨HB.out.trans (BW.out.mono HB2.out)⟩⟩
   ·have hltz : ¬ (jj : Int) < (l0.length : Int) := by omega
    have hje : jj = l0.length := by omega
    have HT2 := aa.mk (show ys.take ii = l0.filter (fp s) by rw [HT.out, hje, List.take_length])
    have hib : ii < l0.length := by omega
    clear hje
    have HOg := aa.mk (show Kd.R gf 152 wr base (fun _ => True) (.slice (some ⟨g, 0, none⟩) l0.length c0) ys by have h1 := HO.out; rw [HAD.out] at h1; exact h1)
    obtain ⟨i0, hi0, hzz⟩ := Option.map_eq_some_iff.1 rC
    simp only [Prod.mk.injEq] at hzz
    have hnc : l0.length ≤ c0 := (Kd.bZ HO.out).2.1
    have hcutc : ∀ W : World, (Instr.slice 122 (.slice (some ad) l0.length c0) (some (.int .i64 (ii : Int))) none none).run Tryz.prog W = .ok (.slice (some ⟨g, ii * 4, none⟩) (l0.length - ii) (c0 - ii)) W := by
     intro W
     have h := ud (P := Tryz.prog) 122 152 .i64 Tryz.underlying122 hi0 4 hzz.2.1 (some ad) l0.length c0 (ii : Int) (by omega) (by omega) W
     rw [h, HAD.out]
     simp only [Int.toNat_natCast]
     rw [if_neg (by omega), Option.map_some, add_plain]
    have hcuto : ∀ W : World, (Instr.slice 122 (.slice (some ad) l0.length c0) none (some (.int .i64 (ii : Int))) none).run Tryz.prog W = .ok (.slice (some ad) ii c0) W := by
     intro W
     have h := vd (P := Tryz.prog) 122 152 .i64 Tryz.underlying122 hi0 (some ad) l0.length c0 (ii : Int) (by omega) (by omega) hnc W
     rw [h]
     rfl
    obtain ⟨vs, hvs⟩ : ∃ vs, (Builtin.zeroCells (Value.agg #[.int .i64 0, .int .i64 0, .int .i64 0, .int .u64 0]).cells (l0.length - ii)).toList = vs := ⟨_, rfl⟩
    have hvl : vs.length = (l0.length - ii) * 4 := by rw [← hvs, Dg]; rfl
    have hv1 : ∀ v ∈ vs, v.oneCell' = true := by
     intro v hv
     rw [← hvs] at hv
     simp only [Builtin.zeroCells, Array.toList_map, List.mem_map] at hv
     obtain ⟨j, _, rfl⟩ := hv
     have h4 : j % 4 = 0 ∨ j % 4 = 1 ∨ j % 4 = 2 ∨ j % 4 = 3 := by omega
     rcases h4 with h4 | h4 | h4 | h4 <;> simp [Value.cells, h4] <;> rfl
    have hrowc : ∀ j, j < vs.length → (wr.cell? ⟨g, ii * 4 + j, none⟩).isSome = true := by
     intro j hj
     obtain ⟨cc, hc1, hc2, hc3, hc4⟩ := Kd.vi HOg.out z152 ((ii + j / 4 : Nat) : Int) (by omega) (by omega)
     obtain ⟨u, hu⟩ : ∃ u, cc[j % 4]? = some u := ⟨_, List.getElem?_eq_getElem (by rw [hc1]; exact Nat.mod_lt _ (by omega))⟩
     have h5 := hc3 _ _ hu
     rw [Int.toNat_natCast, show (ii + j / 4) * gf.sz + j % 4 = ii * 4 + j from by show (ii + j / 4) * 4 + j % 4 = ii * 4 + j; omega] at h5
     rw [h5]
     rfl
    have hrowf : ∀ j, j < vs.length → wr.frozen? ⟨g, ii * 4 + j, none⟩ = false := by
     intro j hj
     obtain ⟨cells, hc⟩ := Kd.sW HOg.out g (by simp [Value.ownBlock])
     exact aj hc _
    have DM := fun ty => oI (P := Tryz.prog) wr 122 152 ty _ Tryz.underlying122 yx g (ii * 4) (l0.length - ii) (c0 - ii) (by omega) vs hvs hv1 hrowc hrowf
    have HFIN := aa.mk (show Kd.R gf 152 (wr.setCells g (ii * 4) vs) base (fun _ => True) (.slice (some ⟨g, 0, none⟩) ii c0) (ys.take ii) from Cy rfl (Kd.vh HOg.out (by rw [HL.out]; omega)) (ii * 4) (Nat.le_refl _) (by rw [hvl]; show ii * 4 + (l0.length - ii) * 4 ≤ c0 * 4; omega))
    have HBF := aa.mk (show Below base w0 (wr.setCells g (ii * 4) vs) from HB.out.trans (by obtain ⟨q1, q2, q3, q4⟩ := j7 g vs (ii * 4) wr; exact ⟨q1, q2, q3, by rw [q4]; exact Nat.le_refl _, fun k hk => jk vs _ k (by omega)⟩))
    clear hvs hvl hv1 hrowc hrowf HOg hi0 hzz
    generalize wr.setCells g (ii * 4) vs = wF at DM HFIN HBF
    have hcl : ∀ ty, (Builtin.clear_ #[122] ty #[.slice (some ⟨g, ii * 4, none⟩) (l0.length - ii) (c0 - ii)]).run Tryz.prog wr = .ok (.tuple #[]) wF := DM
    clear DM
    go_wp2
    go_ret
    exact ⟨_, rfl, by rw [← HT2.out, HAD.out]; exact HFIN.out, HBF.out⟩
set_option maxHeartbeats 4000000 in
set_option maxRecDepth 100000 in
theorem kB.calls (A0 : Option Addr) (c0 : Nat) (l0 : List (dm)) (a1 : Int) (r : List (dm)) (w : World) (hr0 : Kd.C gf w A0 l0.length l0) (hc0 : l0.length ≤ c0) (h : kB.f l0 a1 = some r) :
  Calls Tryz.prog 146 #[.slice A0 l0.length c0, .int .u64 a1] w fun e w' => ∃ v0_ : Value, e = .returned (v0_) ∧ Kd.R gf 152 w' w.heap.size (fun _ => True) v0_ r ∧ Below w.heap.size w w' := by
 unfold kB.f at h
 split at h
 case isFalse => cases h
 rename_i hlen
 have h := Option.some.inj h
 subst h
 have HLEN := aa.mk hlen
 have HR := aa.mk hr0
 clear hr0 hlen
 go_enter Tryz.func146, Tryz.ntmps146
 go_wp2_with fail
 refine (Aa.calls A0 c0 l0 _ (Kd.ax HR.out (ag (Below.refl _ _) _)) hc0 HLEN.out).mono ?_
 rintro e w1 ⟨v, rfl, ho, hb⟩
 obtain ⟨A1, c1, hv⟩ := Kd.bE ho
 subst hv
 have HS := aa.mk (show w1.cell? ⟨w.heap.size, 0, none⟩ = some (.int .u64 a1) from (hb.cell (by simp)).trans (by simp))
 have HO := aa.mk (Kd.cW ho (show w.heap.size ≤ _ by simp))
 have HNB := aa.mk (show ∀ k, (Value.slice A1 l0.length c1).ownBlock = some k → k ≠ w.heap.size from fun k hk => by have := Kd.kO ho k hk; simp at this; omega)
 have HB := aa.mk ((ag (Below.refl w.heap.size w) _).trans (hb.mono (by simp)))
 clear ho hb
 go_wp2_with fail
 refine (qJ.calls A1 c1 l0 a1 w.heap.size w.heap.size w _ HO.out HS.out HNB.out HB.out HB.out.size).mono ?_
 rintro e w2 ⟨v2, rfl, ho, hb⟩
 obtain ⟨A2, c2, hv⟩ := Kd.bE ho
 subst hv
 have HO2 := aa.mk ho
 have HB2 := aa.mk hb
 clear ho hb
 go_wp2
 go_ret
 exact ⟨_, rfl, HO2.out, HB2.out⟩
end Go.Proofs.YtmjlmloomkodpaaGreatDoor.PA
namespace Go.Proofs.YtmjlmloomkodpaaGreatDoor.PA
open Go.RowKit Go.Proofs.ae.aw Go.Proofs.ae.aJ Go.Proofs.ae.aN
attribute [local go_sem] bo bm bC bB a6 aZ bn bj
set_option linter.unusedVariables false
set_option linter.unusedSimpArgs false
def cu.l0 : Nat → Int → List (dm) → Int → Int → Option (Int)
 | 0, _, _, _, _ => none
 | k + 1, x5, x11, x12, x13 => if x13 < x12 then (if 0 ≤ x13 then (if x13 < (x11.length : Int) then (cu.l0 k (Go.bits .andNot .u64 x5 ((de x11 x13).f3)) x11 x12 (wrap64 (x13 + 1))) else (none)) else (none)) else (some x5)
def cu.f (k : Nat) (l0 : List (dm)) (a1 : Int) : Option (Int) := (kB.f l0 a1).bind fun t124 => (cu.l0 k a1 t124 (t124.length : Int) 0)
set_option maxHeartbeats 8000000 in
set_option maxRecDepth 100000 in
theorem cu.calls (k : Nat) (A0 : Option Addr) (c0 : Nat) (l0 : List (dm)) (a1 : Int) (r : Int) (w : World) (hr0 : Kd.C gf w A0 l0.length l0) (hc0 : l0.length ≤ c0) (h : cu.f k l0 a1 = some r) :
  Calls Tryz.prog 112 #[.slice A0 l0.length c0, .int .u64 a1] w fun e w' => e = .returned (.int .u64 r) ∧ Below w.heap.size w w' := by
 have hu152 := Tryz.underlying152
 have HR0 := aa.mk hr0
 have HC0 := aa.mk hc0
 clear hr0 hc0
 have HB := aa.mk (Below.refl w.heap.size w)
 have H : ((kB.f l0 a1).bind fun t124 => (cu.l0 k a1 t124 (t124.length : Int) 0)) = some r := h
 clear h
 replace H := Option.bind_eq_some_iff.mp H
 obtain ⟨t124, A30, H⟩ := H
 replace H : (cu.l0 k a1 t124 (t124.length : Int) 0) = some r := H
 have A3 := aa.mk A30
 clear A30
 have H' := aa.mk H
 clear H
 go_enter Tryz.func112, Tryz.ntmps112
 go_wp2_with (first | ((with_reducible refine az (f := 146) rfl ?_); refine bI (some 11) rfl rfl Tryz.func146 (by kernel_rfl) rfl #[.slice A0 l0.length c0, .int .u64 a1] rfl (by (try simp only [List.map_toArray, List.map_cons, List.map_nil]); first | done | rfl | (simp only [List.length_drop, List.length_take]; rfl)) ?_; (with_reducible refine (kB.calls _ _ l0 a1 t124 _ ?side1 ?side2 A3.out).mono ?_); (case side1 => repeat (first | exact HR0.out | (with_reducible refine Kd.aX ?_ _) | (with_reducible refine Kd.aW ?_ _) | (with_reducible refine Kd.bh ?_))); (case side2 => exact HC0.out); rintro e w4 ⟨v125, rfl, ho0, hb⟩; refine ⟨_, rfl, ?_⟩; have n0_ := aa.mk (Kd.cW ho0 (aq (by repeat (first | (with_reducible first | exact HB.out | apply ag | apply af | apply ah) | exact HB.out)))); have n1_ := aa.mk (ar (by repeat (first | (with_reducible first | exact HB.out | apply ag | apply af | apply ah) | exact HB.out)) hb); clear HB; have C7 := n0_; have HB := n1_; clear n0_ n1_; (try clear hb); (try clear hb2); (try clear hk); (try clear hi); (try clear ho0); obtain ⟨Ao5, co5, eo5⟩ := Kd.bE C7.out; subst eo5))
 go_loopg [5, 13] k (fun kq v5 v13 w' => ∃ (x5_1 : Int) (x13_1 : Int), v5 = .int .u64 x5_1 ∧ v13 = .int .i64 x13_1 ∧ aa (cu.l0 kq x5_1 t124 (t124.length : Int) x13_1 = some r) ∧ aa (kq ≤ k) ∧ aa (Kd.R gf 152 w' w.heap.size (fun _ => True) (.slice Ao5 t124.length co5) t124) ∧ aa (Below w.heap.size w w'))
 case atStart => exact ⟨(a1), (0), (by first | rfl | (simp; done) | (simp [*]; done)), (by first | rfl | (simp; done) | (simp [*]; done)), H', ⟨Nat.le_refl _⟩, ⟨by (with_reducible repeat (first | apply Kd.aH | apply Kd.aG | apply Kd.aQ)); exact C7.out⟩, ⟨by repeat (first | (with_reducible first | exact HB.out | apply ag | apply af | apply ah) | exact HB.out)⟩⟩
 case round =>
  clear H'
  try clear c1
  try clear p2
  obtain ⟨x5_1, x13_1, rfl, rfl, HA, HK1, du, HB⟩ := hrel
  cases gk with
  | zero => exact absurd HA.out (by simp [cu.l0])
  | succ k1 =>
   have H := HA.out
   clear HA
   simp only [cu.l0] at H
   by_cases c6 : x13_1 < (t124.length : Int)
   ·rw [if_pos c6] at H
    have c6b0 : decide (x13_1 < (t124.length : Int)) = true := decide_eq_true c6
    clear c6
    by_cases c7 : 0 ≤ x13_1
    ·rw [if_pos c7] at H
     have c7b0 : decide (0 ≤ x13_1) = true := decide_eq_true c7
     clear c7
     by_cases c8 : x13_1 < (t124.length : Int)
     ·rw [if_pos c8] at H
      have c8b0 : decide (x13_1 < (t124.length : Int)) = true := decide_eq_true c8
      clear c8
      have H' := aa.mk H
      clear H
      have p127 : 0 ≤ (x13_1 : Int) := of_decide_eq_true (by first | (with_reducible assumption) | assumption)
      have q127 : x13_1 < (t124.length : Int) := of_decide_eq_true (by first | (with_reducible assumption) | assumption)
      obtain ⟨ad127, e127, Gw, Gv, Gu, Gs⟩ := pd (Kd.bZ du.out).2.2 x13_1 p127 q127
      cases e127
      replace p127 := eq_true p127
      replace q127 := eq_true q127
      go_wp2_with (first | ((with_reducible refine aV (N := 7) rfl ?_); refine aM ?hg (N := 7) ?hd (cs := #[.int .i64 0, .int .i64 0, .int .i64 0, .int .u64 0]) (t := 152) ?hr ?_; (case hd => rfl); (case hg => rfl); (case hr => first | (go_simp; done) | (go_simp; rfl)); intro kS hg w9 hbox hb; have n0_ := aa.mk (Kd.cx (Kd.zL (by (with_reducible repeat (first | apply Kd.aH | apply Kd.aG | apply Kd.aQ)); exact du.out) kS (Nat.le_of_eq hg.symm)) hb); have n1_ := aa.mk (ar (by repeat (first | (with_reducible first | exact HB.out | apply ag | apply af | apply ah) | exact HB.out)) hb); have n2_ := aa.mk (hbox); have n3_ := aa.mk ((by rw [hg]; exact (aq (by repeat (first | (with_reducible first | exact HB.out | apply ag | apply af | apply ah) | exact HB.out))) : w.heap.size ≤ kS)); have n4_ := aa.mk ((by rw [hg]; exact (aq (by repeat (first | (with_reducible first | exact HB.out | apply ag | apply af | apply ah) | exact HB.out))) : w.heap.size ≤ kS)); clear du; clear HB; have du := n0_; have HB := n1_; have oA := n2_; have GW128 := n3_; have Gh := n4_; clear n0_ n1_ n2_ n3_ n4_; clear hb hbox hg; have jV : w9.cell? ⟨kS, 0, none⟩ = some (.int .i64 0) := (ai oA.out 0).trans rfl; have jU : w9.cell? ⟨kS, 1, none⟩ = some (.int .i64 0) := (ai oA.out 1).trans rfl; have jT : w9.cell? ⟨kS, 2, none⟩ = some (.int .i64 0) := (ai oA.out 2).trans rfl; have jS : w9.cell? ⟨kS, 3, none⟩ = some (.int .u64 0) := (ai oA.out 3).trans rfl; have jR := aj oA.out 0; have jQ := aj oA.out 1; have jP := aj oA.out 2; have jO := aj oA.out 3))
      go_roundg k1
      case measure => have := HK1.out; omega
      case rel => exact ⟨(Go.bits .andNot .u64 x5_1 ((de t124 x13_1).f3)), (wrap64 (x13_1 + 1)), (by first | rfl | (simp; done) | (simp [*]; done)), (by first | rfl | (simp; done) | (simp [*]; done)), H', ⟨by have := HK1.out; omega⟩, ⟨by (with_reducible repeat (first | apply Kd.aH | apply Kd.aG | apply Kd.aQ)); exact Kd.bV (Kd.bp (p := ⟨kS, 3, none⟩) (Kd.bp (p := ⟨kS, 2, none⟩) (Kd.bp (p := ⟨kS, 1, none⟩) (Kd.bp (p := ⟨kS, 0, none⟩) (Kd.bV du.out (fun k_ hk => (⟨hk, hk.2⟩ : _ ∧ k_ ≠ kS))) (fun _ hk => hk.2) (.int .i64 ((de t124 x13_1).f0))) (fun _ hk => hk.2) (.int .i64 ((de t124 x13_1).f1))) (fun _ hk => hk.2) (.int .i64 ((de t124 x13_1).f2))) (fun _ hk => hk.2) (.int .u64 ((de t124 x13_1).f3))) (fun _ hk => trivial)⟩, ⟨by repeat (first | (with_reducible first | exact HB.out | apply ag | apply af | apply ah | refine ak ?_ Gh.out) | exact HB.out)⟩⟩
     ·rw [if_neg c8] at H
      exact absurd H (by simp)
    ·rw [if_neg c7] at H
     exact absurd H (by simp)
   ·rw [if_neg c6] at H
    have c6b0 : decide (x13_1 < (t124.length : Int)) = false := decide_eq_false c6
    clear c6
    obtain rfl := Option.some.inj H
    go_wp2
    go_ret
    exact ⟨by first | rfl | (simp [av, au] <;> rfl) | (simp [*, av, au] <;> rfl), by repeat (first | (with_reducible first | exact HB.out | apply ag | apply af | apply ah) | exact HB.out)⟩
end Go.Proofs.YtmjlmloomkodpaaGreatDoor.PA
namespace Go.Proofs.YtmjlmloomkodpaaGreatDoor.PA
open Go.RowKit Go.Proofs.ae.aw Go.Proofs.ae.aJ Go.Proofs.ae.aN
attribute [local go_sem] bo bm bC bB a6 aZ bn bj
set_option linter.unusedVariables false
set_option linter.unusedSimpArgs false
def dA.f (a0_0 : Int) (a0_1 : Int) (a1 : Int) (a2 : Int) : Option (Int) := if 0 ≤ (wrap64 ((wrap64 (a2 * a0_0)) + a1)) then (some (shl .u64 1 (wrap64 ((wrap64 (a2 * a0_0)) + a1)))) else (none)
set_option maxHeartbeats 8000000 in
set_option maxRecDepth 100000 in
theorem dA.calls (a0_0 : Int) (a0_1 : Int) (a1 : Int) (a2 : Int) (r : Int) (w : World) (h : dA.f a0_0 a0_1 a1 a2 = some r) :
  Calls Tryz.prog 79 #[.agg #[.int .i64 a0_0, .int .i64 a0_1], .int .i64 a1, .int .i64 a2] w fun e w' => e = .returned (.int .u64 r) ∧ Below w.heap.size w w' := by
 have hu61 := Tryz.underlying61
 have HB := aa.mk (Below.refl w.heap.size w)
 have H : (if 0 ≤ (wrap64 ((wrap64 (a2 * a0_0)) + a1)) then (some (shl .u64 1 (wrap64 ((wrap64 (a2 * a0_0)) + a1)))) else (none)) = some r := h
 clear h
 obtain ⟨ji4, hji4⟩ : ∃ j_ : Int, (wrap64 ((wrap64 (a2 * a0_0)) + a1)) = j_ := ⟨_, rfl⟩
 replace H : (if 0 ≤ (ji4) then (some (shl .u64 1 (ji4))) else (none)) = some r := by first | (rw [hji4] at H; exact H) | (simp only [hji4] at H ⊢; exact H)
 have hji4w : (IntKind.i64.wrap ((wrap64 (a2 * a0_0)) + a1)) = ji4 := (a8 _).trans hji4
 by_cases c5 : 0 ≤ (ji4)
 ·rw [if_pos c5] at H
  have c5b0 := eq_true c5
  have c5b1 : decide (0 ≤ (ji4)) = true := decide_eq_true c5
  clear c5
  obtain ⟨ji6, hji6⟩ : ∃ j_ : Int, (shl .u64 1 (ji4)) = j_ := ⟨_, rfl⟩
  replace H : (some ji6) = some r := by first | (rw [hji6] at H; exact H) | (simp only [hji6] at H ⊢; exact H)
  have hji6_ : (IntKind.u64.wrap (1 * 2 ^ min (ji4).toNat 64)) = ji6 := hji6
  have hji6z : (ji4) ≤ 64 → (IntKind.u64.wrap (1 * 2 ^ (ji4).toNat)) = ji6 := fT hji6
  have hji6u : (IntKind.u64.wrap (2 ^ min (ji4).toNat 64)) = ji6 := by have h_ := hji6_; rw [Int.one_mul] at h_; exact h_
  have hji6v : (ji4) ≤ 64 → (IntKind.u64.wrap (2 ^ (ji4).toNat)) = ji6 := fun hle_ => by have h_ := hji6z hle_; rw [Int.one_mul] at h_; exact h_
  obtain rfl := Option.some.inj H
  go_enter Tryz.func79, Tryz.ntmps79
  go_wp2_with (first | ((with_reducible refine aV (N := 3) rfl ?_); refine aM ?hg (N := 3) ?hd (cs := #[.int .i64 a0_0, .int .i64 a0_1]) (t := 61) ?hr ?_; (case hd => rfl); (case hg => rfl); (case hr => first | (go_simp; done) | (go_simp; rfl)); intro wW hg w7 hbox hb; have n0_ := aa.mk (ar (by repeat (first | (with_reducible first | exact HB.out | apply ag | apply af | apply ah) | exact HB.out)) hb); have n1_ := aa.mk (hbox); have n2_ := aa.mk ((by rw [hg]; exact (aq (by repeat (first | (with_reducible first | exact HB.out | apply ag | apply af | apply ah) | exact HB.out))) : w.heap.size ≤ wW)); have n3_ := aa.mk ((by rw [hg]; exact (aq (by repeat (first | (with_reducible first | exact HB.out | apply ag | apply af | apply ah) | exact HB.out))) : w.heap.size ≤ wW)); clear HB; have HB := n0_; have xw := n1_; have GW129 := n2_; have Gg := n3_; clear n0_ n1_ n2_ n3_; clear hb hbox hg; have ln : w7.cell? ⟨wW, 0, none⟩ = some (.int .i64 a0_0) := (ai xw.out 0).trans rfl; have ll : w7.cell? ⟨wW, 1, none⟩ = some (.int .i64 a0_1) := (ai xw.out 1).trans rfl; have k9 := aj xw.out 0; have k8 := aj xw.out 1))
  go_ret
  exact ⟨by first | rfl | (simp [av, au] <;> rfl) | (simp only [← hji4, ← hji6]; first | rfl | (simp [av, au] <;> rfl)) | (simp [*, av, au] <;> rfl), by repeat (first | (with_reducible first | exact HB.out | apply ag | apply af | apply ah | refine ak ?_ Gg.out) | exact HB.out)⟩
 ·rw [if_neg c5] at H
  exact absurd H (by simp)
end Go.Proofs.YtmjlmloomkodpaaGreatDoor.PA
namespace Go.Proofs.YtmjlmloomkodpaaGreatDoor.PA
open Go.RowKit Go.Proofs.ae.aw Go.Proofs.ae.aJ Go.Proofs.ae.aN
attribute [local go_sem] bo bm bC bB a6 aZ bn bj
set_option linter.unusedVariables false
set_option linter.unusedSimpArgs false
def bU.f (a0_0 : Int) (a0_1 : Int) (a1 : Int) (a2 : Int) : Option (Int) := (bu.f a0_0 a0_1).bind fun t131 => (if 0 ≤ (wrap64 ((wrap64 (t131 + (wrap64 (a2 * (wrap64 (a0_0 + 1)))))) + a1)) then (some (shl .u64 1 (wrap64 ((wrap64 (t131 + (wrap64 (a2 * (wrap64 (a0_0 + 1)))))) + a1)))) else (none))
def bU.T1 : Bool × List (List Nat × List Nat) := (true, [([], []), ([0], [0]), ([], []), ([], []), ([3], [3]), ([4], [4]), ([2, 5], [2, 5]), ([1, 6], [1, 6]), ([], []), ([7, 8], [7, 8]), ([9], [9]), ([10, 1, 0, 1, 2, 3, 4, 5, 6, 7, 8, 9, 10], [10])])
def bU.B1 : List Nat := [0, 1, 0, 0, 8, 24, 60, 127, 0, 511, 1023, 2047]
theorem bU.uy : iw .any (opsOf Tryz.f78 1) = bU.T1 := by kernel_rfl
theorem bU.pT : gL bU.T1.2 bU.B1 = true := by kernel_rfl
set_option maxHeartbeats 8000000 in
set_option maxRecDepth 100000 in
theorem bU.calls (a0_0 : Int) (a0_1 : Int) (a1 : Int) (a2 : Int) (r : Int) (w : World) (h : bU.f a0_0 a0_1 a1 a2 = some r) :
  Calls Tryz.prog 78 #[.agg #[.int .i64 a0_0, .int .i64 a0_1], .int .i64 a1, .int .i64 a2] w fun e w' => e = .returned (.int .u64 r) ∧ Below w.heap.size w w' := by
 have hu61 := Tryz.underlying61
 have HB := aa.mk (Below.refl w.heap.size w)
 have H : ((bu.f a0_0 a0_1).bind fun t131 => (if 0 ≤ (wrap64 ((wrap64 (t131 + (wrap64 (a2 * (wrap64 (a0_0 + 1)))))) + a1)) then (some (shl .u64 1 (wrap64 ((wrap64 (t131 + (wrap64 (a2 * (wrap64 (a0_0 + 1)))))) + a1)))) else (none))) = some r := h
 clear h
 replace H := Option.bind_eq_some_iff.mp H
 obtain ⟨t131, A40, H⟩ := H
 replace H : (if 0 ≤ (wrap64 ((wrap64 (t131 + (wrap64 (a2 * (wrap64 (a0_0 + 1)))))) + a1)) then (some (shl .u64 1 (wrap64 ((wrap64 (t131 + (wrap64 (a2 * (wrap64 (a0_0 + 1)))))) + a1)))) else (none)) = some r := H
 have A4 := aa.mk A40
 clear A40
 obtain ⟨ji5, hji5⟩ : ∃ j_ : Int, (wrap64 ((wrap64 (t131 + (wrap64 (a2 * (wrap64 (a0_0 + 1)))))) + a1)) = j_ := ⟨_, rfl⟩
 replace H : (if 0 ≤ (ji5) then (some (shl .u64 1 (ji5))) else (none)) = some r := by first | (rw [hji5] at H; exact H) | (simp only [hji5] at H ⊢; exact H)
 (try rw [hji5] at A4)
 have hji5w : (IntKind.i64.wrap ((wrap64 (t131 + (wrap64 (a2 * (wrap64 (a0_0 + 1)))))) + a1)) = ji5 := (a8 _).trans hji5
 by_cases c6 : 0 ≤ (ji5)
 ·rw [if_pos c6] at H
  have c6b0 := eq_true c6
  have c6b1 : decide (0 ≤ (ji5)) = true := decide_eq_true c6
  clear c6
  obtain ⟨ji7, hji7⟩ : ∃ j_ : Int, (shl .u64 1 (ji5)) = j_ := ⟨_, rfl⟩
  replace H : (some ji7) = some r := by first | (rw [hji7] at H; exact H) | (simp only [hji7] at H ⊢; exact H)
  (try rw [hji7] at A4)
  have hji7_ : (IntKind.u64.wrap (1 * 2 ^ min (ji5).toNat 64)) = ji7 := hji7
  have hji7z : (ji5) ≤ 64 → (IntKind.u64.wrap (1 * 2 ^ (ji5).toNat)) = ji7 := fT hji7
  have hji7u : (IntKind.u64.wrap (2 ^ min (ji5).toNat 64)) = ji7 := by have h_ := hji7_; rw [Int.one_mul] at h_; exact h_
  have hji7v : (ji5) ≤ 64 → (IntKind.u64.wrap (2 ^ (ji5).toNat)) = ji7 := fun hle_ => by have h_ := hji7z hle_; rw [Int.one_mul] at h_; exact h_
  obtain rfl := Option.some.inj H
  go_enter Tryz.func78, Tryz.ntmps78
  try go_wp2_with (first | ((with_reducible refine aV (N := 3) rfl ?_); refine aM ?hg (N := 3) ?hd (cs := #[.int .i64 a0_0, .int .i64 a0_1]) (t := 61) ?hr ?_; (case hd => rfl); (case hg => rfl); (case hr => first | (go_simp; done) | (go_simp; rfl)); intro tV hg w8 hbox hb; have n0_ := aa.mk (ar (by repeat (first | (with_reducible first | exact HB.out | apply ag | apply af | apply ah) | exact HB.out)) hb); have n1_ := aa.mk (hbox); have n2_ := aa.mk ((by rw [hg]; exact (aq (by repeat (first | (with_reducible first | exact HB.out | apply ag | apply af | apply ah) | exact HB.out))) : w.heap.size ≤ tV)); have n3_ := aa.mk ((by rw [hg]; exact (aq (by repeat (first | (with_reducible first | exact HB.out | apply ag | apply af | apply ah) | exact HB.out))) : w.heap.size ≤ tV)); clear HB; have HB := n0_; have lP := n1_; have GW130 := n2_; have Df := n3_; clear n0_ n1_ n2_ n3_; clear hb hbox hg))
  have n0_ := aa.mk (ao lP.out)
  have n1_ := aa.mk (ah HB.out)
  clear lP
  clear HB
  have lP := n0_
  have HB := n1_
  clear n0_ n1_
  refine j6 (n := 12) (S := fun w' => w'.cell? ⟨tV, 0, none⟩ = some (.int .i64 a0_0) ∧ w'.cell? ⟨tV, 1, none⟩ = some (.int .i64 a0_1)) (ds := []) #[false, false, false, false, false, false, false, false, false, false, false, false] (by kernel_rfl) rfl rfl ⟨(ai lP.out 0).trans rfl, (ai lP.out 1).trans rfl⟩ (fun hHeld => ?_); refine fS bU.uy bU.pT (fun HT_ HW_ => ?_)
  generalize w8.drew = w9 at lP HB hHeld ⊢
  refine bO (i := 2) (N := some 9) (v := ?_) (a' := ?_) #[false, false, true, false, false, false, false, false, false, false, false, false] rfl rfl (bx HT_.out (by kernel_rfl)) (fun _ _ _ h => h) (Or.inl ⟨by rfl, ?_⟩) ?_ ?_
  rotate_left
  ·intro w'
   go_simp
   with_reducible rfl
  rotate_left
  ·simp only [Act.put, List.setIfInBounds_toArray, List.set_cons_zero, List.set_cons_succ, a8, bf]
   rfl
  refine bO (i := 3) (N := some 10) (v := ?_) (a' := ?_) #[false, false, true, true, false, false, false, false, false, false, false, false] rfl rfl (bx HT_.out (by kernel_rfl)) (fun _ _ _ h => h) (Or.inl ⟨by rfl, ?_⟩) ?_ ?_
  rotate_left
  ·intro w'
   go_simp
   with_reducible rfl
  rotate_left
  ·simp only [Act.put, List.setIfInBounds_toArray, List.set_cons_zero, List.set_cons_succ, a8, bf]
   rfl
  refine bO (i := 8) (N := some 15) (v := ?_) (a' := ?_) #[false, false, true, true, false, false, false, false, true, false, false, false] rfl rfl (bx HT_.out (by kernel_rfl)) (fun _ _ _ h => h) (Or.inl ⟨by rfl, ?_⟩) ?_ ?_
  rotate_left
  ·intro w'
   go_simp
   with_reducible rfl
  rotate_left
  ·simp only [Act.put, List.setIfInBounds_toArray, List.set_cons_zero, List.set_cons_succ, a8, bf]
   rfl
  refine eW (i := 0) (N := some 7) (v := ?_) (a' := ?_) #[true, false, true, true, false, false, false, false, true, false, false, false] rfl rfl (cV HT_.out HW_.out (by kernel_rfl)) (fun _ _ _ h => h) (Or.inl ⟨by rfl, ?_⟩) hHeld ?_ ?_
  rotate_left
  ·rintro w' ⟨s0, s1⟩
   go_simp
   with_reducible rfl
  rotate_left
  ·simp only [Act.put, List.setIfInBounds_toArray, List.set_cons_zero, List.set_cons_succ, a8, bf]
   rfl
  refine eW (i := 4) (N := some 11) (v := ?_) (a' := ?_) #[true, false, true, true, true, false, false, false, true, false, false, false] rfl rfl (cV HT_.out HW_.out (by kernel_rfl)) (fun _ _ _ h => h) (Or.inl ⟨by rfl, ?_⟩) hHeld ?_ ?_
  rotate_left
  ·rintro w' ⟨s0, s1⟩
   go_simp
   with_reducible rfl
  rotate_left
  ·simp only [Act.put, List.setIfInBounds_toArray, List.set_cons_zero, List.set_cons_succ, a8, bf]
   rfl
  refine bO (i := 5) (N := some 12) (v := ?_) (a' := ?_) #[true, false, true, true, true, true, false, false, true, false, false, false] rfl rfl (bx HT_.out (by kernel_rfl)) (fun _ _ _ h => h) (Or.inl ⟨by rfl, ?_⟩) ?_ ?_
  rotate_left
  ·intro w'
   go_simp
   with_reducible rfl
  rotate_left
  ·simp only [Act.put, List.setIfInBounds_toArray, List.set_cons_zero, List.set_cons_succ, a8, bf]
   rfl
  refine bO (i := 6) (N := some 13) (v := ?_) (a' := ?_) #[true, false, true, true, true, true, true, false, true, false, false, false] rfl rfl (bx HT_.out (by kernel_rfl)) (fun _ _ _ h => h) (Or.inl ⟨by rfl, ?_⟩) ?_ ?_
  rotate_left
  ·intro w'
   go_simp
   with_reducible rfl
  rotate_left
  ·simp only [Act.put, List.setIfInBounds_toArray, List.set_cons_zero, List.set_cons_succ, a8, bf]
   rfl
  refine jv (i := 1) (N := some 8) #[true, true, true, true, true, true, true, false, true, false, false, false] rfl rfl (eO HT_.out (by kernel_rfl)) (by decide) (fun K hK => ?_)
  refine gD Tryz.func69 (by kernel_rfl) rfl #[.agg #[.int .i64 a0_0, .int .i64 a0_1]] (by rfl) rfl rfl (by (try simp only [List.map_toArray, List.map_cons, List.map_nil]); first | done | rfl | (simp only [List.length_drop, List.length_take]; rfl)) ?_
  with_reducible refine (bu.calls a0_0 a0_1 t131 _ A4.out).mono ?_
  rintro e w10 ⟨rfl, hb⟩
  refine ⟨_, rfl, ?_⟩
  have n0_ := aa.mk (aD (g := tV) (o := .cells #[.int .i64 a0_0, .int .i64 a0_1] 61 (0, 0)) (by (with_reducible repeat (first | refine al ?_ _ | refine ao ?_ | refine an ?_ _)); exact lP.out) hb)
  have n1_ := aa.mk (ar (by repeat (first | (with_reducible first | exact HB.out | apply ag | apply af | apply ah | refine ak ?_ Df.out) | exact HB.out)) hb)
  clear lP
  clear HB
  have lP := n0_
  have HB := n1_
  clear n0_ n1_
  (try clear hb)
  (try clear hb2)
  (try clear hk)
  (try clear hi)
  refine hK.out _ _ ⟨(ai lP.out 0).trans rfl, (ai lP.out 1).trans rfl⟩ (fun hHeld => ?_)
  clear hK K
  refine gC (a' := ?_) ?_ ?_
  rotate_left
  ·show Act.put _ (some 8) _ = _
   simp only [Act.put, List.setIfInBounds_toArray, List.set_cons_zero, List.set_cons_succ, a8, bf]
   rfl
  refine bO (i := 7) (N := some 14) (v := ?_) (a' := ?_) #[true, true, true, true, true, true, true, true, true, false, false, false] rfl rfl (bx HT_.out (by kernel_rfl)) (fun _ _ _ h => h) (Or.inl ⟨by rfl, ?_⟩) ?_ ?_
  rotate_left
  ·intro w'
   go_simp
   with_reducible rfl
  rotate_left
  ·simp only [Act.put, List.setIfInBounds_toArray, List.set_cons_zero, List.set_cons_succ, a8, bf]
   rfl
  refine bO (i := 9) (N := some 16) (v := ?_) (a' := ?_) #[true, true, true, true, true, true, true, true, true, true, false, false] rfl rfl (bx HT_.out (by kernel_rfl)) (fun _ _ _ h => h) (Or.inl ⟨by rfl, ?_⟩) ?_ ?_
  rotate_left
  ·intro w'
   go_simp
   with_reducible rfl
  rotate_left
  ·simp only [Act.put, List.setIfInBounds_toArray, List.set_cons_zero, List.set_cons_succ, a8, bf]
   rfl
  refine bO (i := 10) (N := some 17) (v := ?_) (a' := ?_) #[true, true, true, true, true, true, true, true, true, true, true, false] rfl rfl (bx HT_.out (by kernel_rfl)) (fun _ _ _ h => h) (Or.inl ⟨by rfl, ?_⟩) ?_ ?_
  rotate_left
  ·intro w'
   go_simp
   with_reducible rfl
  rotate_left
  ·simp only [Act.put, List.setIfInBounds_toArray, List.set_cons_zero, List.set_cons_succ, a8, bf]
   rfl
  refine bO (i := 11) (N := some 6) (v := ?_) (a' := ?_) #[true, true, true, true, true, true, true, true, true, true, true, true] rfl rfl (bx HT_.out (by kernel_rfl)) (fun _ _ _ h => h) (Or.inl ⟨by rfl, ?_⟩) ?_ ?_
  rotate_left
  ·intro w'
   go_simp
   with_reducible rfl
  rotate_left
  ·simp only [Act.put, List.setIfInBounds_toArray, List.set_cons_zero, List.set_cons_succ, a8, bf]
   rfl
  refine mq (iU HT_.out (by kernel_rfl)) ?_
  try go_wp2
  go_ret
  exact ⟨by first | rfl | (simp [av, au] <;> rfl) | (simp only [← hji5, ← hji7]; first | rfl | (simp [av, au] <;> rfl)) | (simp [*, av, au] <;> rfl), by repeat (first | (with_reducible first | exact HB.out | apply ag | apply af | apply ah | refine ak ?_ Df.out) | exact HB.out)⟩
 ·rw [if_neg c6] at H
  exact absurd H (by simp)
end Go.Proofs.YtmjlmloomkodpaaGreatDoor.PA
namespace Go.Proofs.YtmjlmloomkodpaaGreatDoor.PA
open Go.RowKit Go.Proofs.ae.aw Go.Proofs.ae.aJ Go.Proofs.ae.aN
attribute [local go_sem] bo bm bC bB a6 aZ bn bj
set_option linter.unusedVariables false
set_option linter.unusedSimpArgs false
mutual
def ay.l0 : Nat → Int → Int → Int → Int → Int → Int → Int → Int → Int → Option (Int)
 | 0, _, _, _, _, _, _, _, _, _ => none
 | k + 1, x1, x2, x3, x4, x11, x14, x15, x340000, x340001 => if x15 < x14 then ((dA.f x340000 x340001 (wrap64 (x1 + x15)) x2).bind fun t340 => ((dA.f x340000 x340001 (wrap64 (x1 + x15)) (wrap64 (x2 + x4))).bind fun t341 => (ay.l0 k x1 x2 x3 x4 (Go.bits .or .u64 x11 (Go.bits .or .u64 t340 t341)) x14 (wrap64 (x15 + 1)) x340000 x340001))) else (ay.l1 k x1 x2 x3 x11 x4 0 x340000 x340001)
def ay.l1 : Nat → Int → Int → Int → Int → Int → Int → Int → Int → Option (Int)
 | 0, _, _, _, _, _, _, _, _ => none
 | k + 1, x1, x2, x3, x11, x36, x37, x340000, x340001 => if x37 < x36 then ((bU.f x340000 x340001 x1 (wrap64 (x2 + x37))).bind fun t342 => ((bU.f x340000 x340001 (wrap64 (x1 + x3)) (wrap64 (x2 + x37))).bind fun t343 => (ay.l1 k x1 x2 x3 (Go.bits .or .u64 x11 (Go.bits .or .u64 t342 t343)) x36 (wrap64 (x37 + 1)) x340000 x340001))) else (some x11)
end
def ay.f (k : Nat) (a0_0 : Int) (a0_1 : Int) (a1 : Int) (a2 : Int) (a3 : Int) (a4 : Int) : Option (Int) := ay.l0 k a1 a2 a3 a4 0 a3 0 a0_0 a0_1
theorem ay.ie : ∀ k, (∀ y0 y1 y2 y3 y4 y5 y6 y7 y8, LeO (ay.l0 k y0 y1 y2 y3 y4 y5 y6 y7 y8) (ay.l0 (k + 1) y0 y1 y2 y3 y4 y5 y6 y7 y8)) ∧ (∀ y0 y1 y2 y3 y4 y5 y6 y7, LeO (ay.l1 k y0 y1 y2 y3 y4 y5 y6 y7) (ay.l1 (k + 1) y0 y1 y2 y3 y4 y5 y6 y7))
 | 0 => ⟨fun _ _ _ _ _ _ _ _ _ r h => by simp [ay.l0] at h, fun _ _ _ _ _ _ _ _ r h => by simp [ay.l1] at h⟩
 | k + 1 => by
  obtain ⟨ih0, ih1⟩ := ay.ie k
  refine ⟨?_, ?_⟩
  ·intro y0 y1 y2 y3 y4 y5 y6 y7 y8
   unfold ay.l0
   repeat' first
   | (with_reducible exact ih0 _ _ _ _ _ _ _ _ _)
   | (with_reducible exact ih1 _ _ _ _ _ _ _ _)
   | (with_reducible exact LeO.refl _)
   | (with_reducible exact LeO.none _)
   | (with_reducible refine LeO.ite ?_ ?_)
   | (with_reducible refine LeO.bind ?_ (fun _ => ?_))
   | exact ih0 _ _ _ _ _ _ _ _ _
   | exact ih1 _ _ _ _ _ _ _ _
   | exact LeO.none _
   | refine LeO.ite ?_ ?_
   | refine LeO.bind ?_ (fun _ => ?_)
  ·intro y0 y1 y2 y3 y4 y5 y6 y7
   unfold ay.l1
   repeat' first
   | (with_reducible exact ih0 _ _ _ _ _ _ _ _ _)
   | (with_reducible exact ih1 _ _ _ _ _ _ _ _)
   | (with_reducible exact LeO.refl _)
   | (with_reducible exact LeO.none _)
   | (with_reducible refine LeO.ite ?_ ?_)
   | (with_reducible refine LeO.bind ?_ (fun _ => ?_))
   | exact ih0 _ _ _ _ _ _ _ _ _
   | exact ih1 _ _ _ _ _ _ _ _
   | exact LeO.none _
   | refine LeO.ite ?_ ?_
   | refine LeO.bind ?_ (fun _ => ?_)
theorem ay.mono : ∀ a0 a1 a2 a3 a4 a5 k, LeO (ay.f k a0 a1 a2 a3 a4 a5) (ay.f (k + 1) a0 a1 a2 a3 a4 a5) := by
 intro a0 a1 a2 a3 a4 a5 k
 obtain ⟨ih0, ih1⟩ := ay.ie k
 unfold ay.f
 repeat' first
   | (with_reducible exact ih0 _ _ _ _ _ _ _ _ _)
   | (with_reducible exact ih1 _ _ _ _ _ _ _ _)
   | (with_reducible exact LeO.refl _)
   | (with_reducible exact LeO.none _)
   | (with_reducible refine LeO.ite ?_ ?_)
   | (with_reducible refine LeO.bind ?_ (fun _ => ?_))
   | exact ih0 _ _ _ _ _ _ _ _ _
   | exact ih1 _ _ _ _ _ _ _ _
   | exact LeO.none _
   | refine LeO.ite ?_ ?_
   | refine LeO.bind ?_ (fun _ => ?_)
def ay.T5 : Bool × List (List Nat × List Nat) := (true, [([], []), ([], []), ([], []), ([], []), ([2, 3], [2, 3]), ([], []), ([1, 4, 5], [1, 4, 5]), ([], []), ([], []), ([], []), ([8, 9], [8, 9]), ([], []), ([], []), ([11, 12], [11, 12]), ([7, 10, 13, 6], [7, 10, 13]), ([6, 14], [6, 14]), ([0, 15], [0, 15]), ([16, 14, 0, 1, 2, 3, 4, 5, 6, 7, 8, 9, 10, 11, 12, 13, 14, 15, 16], [0, 16])])
def ay.B5 : List Nat := [0, 0, 0, 0, 12, 0, 62, 0, 0, 0, 768, 0, 0, 6144, 16382, 32766, 65535, 131071]
theorem ay.Di : iw .any (opsOf Tryz.f141 5) = ay.T5 := by kernel_rfl
theorem ay.zz : gL ay.T5.2 ay.B5 = true := by kernel_rfl
def ay.T10 : Bool × List (List Nat × List Nat) := (true, [([], []), ([], []), ([], []), ([], []), ([], []), ([3, 4], [3, 4]), ([1, 2, 5], [1, 2, 5]), ([], []), ([], []), ([], []), ([8, 9], [8, 9]), ([], []), ([], []), ([11, 12], [11, 12]), ([7, 10, 13, 6], [7, 10, 13]), ([6, 14], [6, 14]), ([0, 15], [0, 15]), ([16, 14, 0, 1, 2, 3, 4, 5, 6, 7, 8, 9, 10, 11, 12, 13, 14, 15, 16], [0, 16])])
def ay.B10 : List Nat := [0, 0, 0, 0, 0, 24, 62, 0, 0, 0, 768, 0, 0, 6144, 16382, 32766, 65535, 131071]
theorem ay.Ep : iw .any (opsOf Tryz.f141 10) = ay.T10 := by kernel_rfl
theorem ay.D0 : gL ay.T10.2 ay.B10 = true := by kernel_rfl
set_option maxHeartbeats 8000000 in
set_option maxRecDepth 100000 in
theorem ay.calls (k : Nat) (a0_0 : Int) (a0_1 : Int) (a1 : Int) (a2 : Int) (a3 : Int) (a4 : Int) (r : Int) (w : World) (h : ay.f k a0_0 a0_1 a1 a2 a3 a4 = some r) :
  Calls Tryz.prog 141 #[.agg #[.int .i64 a0_0, .int .i64 a0_1], .int .i64 a1, .int .i64 a2, .int .i64 a3, .int .i64 a4] w fun e w' => e = .returned (.int .u64 r) ∧ Below w.heap.size w w' := by
 have hu61 := Tryz.underlying61
 have HB := aa.mk (Below.refl w.heap.size w)
 have H : (ay.l0 k a1 a2 a3 a4 0 a3 0 a0_0 a0_1) = some r := h
 clear h
 have H' := aa.mk H
 clear H
 go_enter Tryz.func141, Tryz.ntmps141
 go_wp2_with (first | ((with_reducible refine aV (N := 5) rfl ?_); refine aM ?hg (N := 5) ?hd (cs := #[.int .i64 a0_0, .int .i64 a0_1]) (t := 61) ?hr ?_; (case hd => rfl); (case hg => rfl); (case hr => first | (go_simp; done) | (go_simp; rfl)); intro kR hg w6 hbox hb; have n0_ := aa.mk (ar (by repeat (first | (with_reducible first | exact HB.out | apply ag | apply af | apply ah) | exact HB.out)) hb); have n1_ := aa.mk (hbox); have n2_ := aa.mk ((by rw [hg]; exact (aq (by repeat (first | (with_reducible first | exact HB.out | apply ag | apply af | apply ah) | exact HB.out))) : w.heap.size ≤ kR)); have n3_ := aa.mk ((by rw [hg]; exact (aq (by repeat (first | (with_reducible first | exact HB.out | apply ag | apply af | apply ah) | exact HB.out))) : w.heap.size ≤ kR)); clear HB; have HB := n0_; have ee := n1_; have GW339 := n2_; have nv := n3_; clear n0_ n1_ n2_ n3_; clear hb hbox hg))
 go_loopg [11, 15] k (fun kq v11 v15 w' => ∃ (x11_1 : Int) (x15_1 : Int), v11 = .int .u64 x11_1 ∧ v15 = .int .i64 x15_1 ∧ aa (ay.l0 kq a1 a2 a3 a4 x11_1 a3 x15_1 a0_0 a0_1 = some r) ∧ aa (kq ≤ k) ∧ aa (w'.heap[kR]? = some (.cells #[.int .i64 a0_0, .int .i64 a0_1] 61 (0, 0))) ∧ aa (Below w.heap.size w w'))
 case atStart => exact ⟨(0), (0), (by first | rfl | (simp; done) | (simp [*]; done)), (by first | rfl | (simp; done) | (simp [*]; done)), H', ⟨Nat.le_refl _⟩, ⟨by (with_reducible repeat (first | refine al ?_ _ | refine ao ?_ | refine an ?_ _)); exact ee.out⟩, ⟨by repeat (first | (with_reducible first | exact HB.out | apply ag | apply af | apply ah | refine ak ?_ nv.out) | exact HB.out)⟩⟩
 case round =>
  clear H'
  try clear c1
  try clear p2
  obtain ⟨x11_1, x15_1, rfl, rfl, HA, HK1, ee, HB⟩ := hrel
  cases gk with
  | zero => exact absurd HA.out (by simp [ay.l0])
  | succ k1 =>
   have H := HA.out
   clear HA
   simp only [ay.l0] at H
   by_cases c7 : x15_1 < a3
   ·rw [if_pos c7] at H
    have c7b0 : decide (x15_1 < a3) = true := decide_eq_true c7
    clear c7
    replace H := Option.bind_eq_some_iff.mp H
    obtain ⟨t340, A80, H⟩ := H
    replace H : ((dA.f a0_0 a0_1 (wrap64 (a1 + x15_1)) (wrap64 (a2 + a4))).bind fun t341 => (ay.l0 k1 a1 a2 a3 a4 (Go.bits .or .u64 x11_1 (Go.bits .or .u64 t340 t341)) a3 (wrap64 (x15_1 + 1)) a0_0 a0_1)) = some r := H
    have A8 := aa.mk A80
    clear A80
    replace H := Option.bind_eq_some_iff.mp H
    obtain ⟨t341, A90, H⟩ := H
    replace H : (ay.l0 k1 a1 a2 a3 a4 (Go.bits .or .u64 x11_1 (Go.bits .or .u64 t340 t341)) a3 (wrap64 (x15_1 + 1)) a0_0 a0_1) = some r := H
    have A9 := aa.mk A90
    clear A90
    have H' := aa.mk H
    clear H
    try go_wp2
    have n0_ := aa.mk (ao ee.out)
    have n1_ := aa.mk (ah HB.out)
    clear ee
    clear HB
    have ee := n0_
    have HB := n1_
    clear n0_ n1_
    refine j6 (n := 18) (S := fun w' => w'.cell? ⟨kR, 0, none⟩ = some (.int .i64 a0_0) ∧ w'.cell? ⟨kR, 1, none⟩ = some (.int .i64 a0_1)) (ds := []) #[false, false, false, false, false, false, false, false, false, false, false, false, false, false, false, false, false, false] (by kernel_rfl) rfl rfl ⟨(ai ee.out 0).trans rfl, (ai ee.out 1).trans rfl⟩ (fun hHeld => ?_); refine fS ay.Di ay.zz (fun HT_ HW_ => ?_)
    generalize wr.drew = w10 at ee HB hHeld ⊢
    refine bO (i := 0) (N := some 18) (v := ?_) (a' := ?_) #[true, false, false, false, false, false, false, false, false, false, false, false, false, false, false, false, false, false] rfl rfl (bx HT_.out (by kernel_rfl)) (fun _ _ _ h => h) (Or.inl ⟨by rfl, ?_⟩) ?_ ?_
    rotate_left
    ·intro w'
     go_simp
     with_reducible rfl
    rotate_left
    ·simp only [Act.put, List.setIfInBounds_toArray, List.set_cons_zero, List.set_cons_succ, a8, bf]
     rfl
    refine bO (i := 2) (N := some 20) (v := ?_) (a' := ?_) #[true, false, true, false, false, false, false, false, false, false, false, false, false, false, false, false, false, false] rfl rfl (bx HT_.out (by kernel_rfl)) (fun _ _ _ h => h) (Or.inl ⟨by rfl, ?_⟩) ?_ ?_
    rotate_left
    ·intro w'
     go_simp
     with_reducible rfl
    rotate_left
    ·simp only [Act.put, List.setIfInBounds_toArray, List.set_cons_zero, List.set_cons_succ, a8, bf]
     rfl
    refine bO (i := 3) (N := some 21) (v := ?_) (a' := ?_) #[true, false, true, true, false, false, false, false, false, false, false, false, false, false, false, false, false, false] rfl rfl (bx HT_.out (by kernel_rfl)) (fun _ _ _ h => h) (Or.inl ⟨by rfl, ?_⟩) ?_ ?_
    rotate_left
    ·intro w'
     go_simp
     with_reducible rfl
    rotate_left
    ·simp only [Act.put, List.setIfInBounds_toArray, List.set_cons_zero, List.set_cons_succ, a8, bf]
     rfl
    refine bO (i := 4) (N := some 22) (v := ?_) (a' := ?_) #[true, false, true, true, true, false, false, false, false, false, false, false, false, false, false, false, false, false] rfl rfl (bx HT_.out (by kernel_rfl)) (fun _ _ _ h => h) (Or.inl ⟨by rfl, ?_⟩) ?_ ?_
    rotate_left
    ·intro w'
     go_simp
     with_reducible rfl
    rotate_left
    ·simp only [Act.put, List.setIfInBounds_toArray, List.set_cons_zero, List.set_cons_succ, a8, bf]
     rfl
    refine bO (i := 5) (N := some 23) (v := ?_) (a' := ?_) #[true, false, true, true, true, true, false, false, false, false, false, false, false, false, false, false, false, false] rfl rfl (bx HT_.out (by kernel_rfl)) (fun _ _ _ h => h) (Or.inl ⟨by rfl, ?_⟩) ?_ ?_
    rotate_left
    ·intro w'
     go_simp
     with_reducible rfl
    rotate_left
    ·simp only [Act.put, List.setIfInBounds_toArray, List.set_cons_zero, List.set_cons_succ, a8, bf]
     rfl
    refine bO (i := 8) (N := some 26) (v := ?_) (a' := ?_) #[true, false, true, true, true, true, false, false, true, false, false, false, false, false, false, false, false, false] rfl rfl (bx HT_.out (by kernel_rfl)) (fun _ _ _ h => h) (Or.inl ⟨by rfl, ?_⟩) ?_ ?_
    rotate_left
    ·intro w'
     go_simp
     with_reducible rfl
    rotate_left
    ·simp only [Act.put, List.setIfInBounds_toArray, List.set_cons_zero, List.set_cons_succ, a8, bf]
     rfl
    refine bO (i := 9) (N := some 27) (v := ?_) (a' := ?_) #[true, false, true, true, true, true, false, false, true, true, false, false, false, false, false, false, false, false] rfl rfl (bx HT_.out (by kernel_rfl)) (fun _ _ _ h => h) (Or.inl ⟨by rfl, ?_⟩) ?_ ?_
    rotate_left
    ·intro w'
     go_simp
     with_reducible rfl
    rotate_left
    ·simp only [Act.put, List.setIfInBounds_toArray, List.set_cons_zero, List.set_cons_succ, a8, bf]
     rfl
    refine bO (i := 10) (N := some 28) (v := ?_) (a' := ?_) #[true, false, true, true, true, true, false, false, true, true, true, false, false, false, false, false, false, false] rfl rfl (bx HT_.out (by kernel_rfl)) (fun _ _ _ h => h) (Or.inl ⟨by rfl, ?_⟩) ?_ ?_
    rotate_left
    ·intro w'
     go_simp
     with_reducible rfl
    rotate_left
    ·simp only [Act.put, List.setIfInBounds_toArray, List.set_cons_zero, List.set_cons_succ, a8, bf]
     rfl
    refine bO (i := 11) (N := some 29) (v := ?_) (a' := ?_) #[true, false, true, true, true, true, false, false, true, true, true, true, false, false, false, false, false, false] rfl rfl (bx HT_.out (by kernel_rfl)) (fun _ _ _ h => h) (Or.inl ⟨by rfl, ?_⟩) ?_ ?_
    rotate_left
    ·intro w'
     go_simp
     with_reducible rfl
    rotate_left
    ·simp only [Act.put, List.setIfInBounds_toArray, List.set_cons_zero, List.set_cons_succ, a8, bf]
     rfl
    refine bO (i := 12) (N := some 30) (v := ?_) (a' := ?_) #[true, false, true, true, true, true, false, false, true, true, true, true, true, false, false, false, false, false] rfl rfl (bx HT_.out (by kernel_rfl)) (fun _ _ _ h => h) (Or.inl ⟨by rfl, ?_⟩) ?_ ?_
    rotate_left
    ·intro w'
     go_simp
     with_reducible rfl
    rotate_left
    ·simp only [Act.put, List.setIfInBounds_toArray, List.set_cons_zero, List.set_cons_succ, a8, bf]
     rfl
    refine bO (i := 13) (N := some 31) (v := ?_) (a' := ?_) #[true, false, true, true, true, true, false, false, true, true, true, true, true, true, false, false, false, false] rfl rfl (bx HT_.out (by kernel_rfl)) (fun _ _ _ h => h) (Or.inl ⟨by rfl, ?_⟩) ?_ ?_
    rotate_left
    ·intro w'
     go_simp
     with_reducible rfl
    rotate_left
    ·simp only [Act.put, List.setIfInBounds_toArray, List.set_cons_zero, List.set_cons_succ, a8, bf]
     rfl
    refine eW (i := 1) (N := some 19) (v := ?_) (a' := ?_) #[true, true, true, true, true, true, false, false, true, true, true, true, true, true, false, false, false, false] rfl rfl (cV HT_.out HW_.out (by kernel_rfl)) (fun _ _ _ h => h) (Or.inl ⟨by rfl, ?_⟩) hHeld ?_ ?_
    rotate_left
    ·rintro w' ⟨s0, s1⟩
     go_simp
     with_reducible rfl
    rotate_left
    ·simp only [Act.put, List.setIfInBounds_toArray, List.set_cons_zero, List.set_cons_succ, a8, bf]
     rfl
    refine eW (i := 7) (N := some 25) (v := ?_) (a' := ?_) #[true, true, true, true, true, true, false, true, true, true, true, true, true, true, false, false, false, false] rfl rfl (cV HT_.out HW_.out (by kernel_rfl)) (fun _ _ _ h => h) (Or.inl ⟨by rfl, ?_⟩) hHeld ?_ ?_
    rotate_left
    ·rintro w' ⟨s0, s1⟩
     go_simp
     with_reducible rfl
    rotate_left
    ·simp only [Act.put, List.setIfInBounds_toArray, List.set_cons_zero, List.set_cons_succ, a8, bf]
     rfl
    refine jv (i := 6) (N := some 24) #[true, true, true, true, true, true, true, true, true, true, true, true, true, true, false, false, false, false] rfl rfl (eO HT_.out (by kernel_rfl)) (by decide) (fun K hK => ?_)
    refine gD Tryz.func79 (by kernel_rfl) rfl #[.agg #[.int .i64 a0_0, .int .i64 a0_1], .int .i64 (wrap64 (a1 + x15_1)), .int .i64 a2] (by rfl) rfl rfl (by (try simp only [List.map_toArray, List.map_cons, List.map_nil]); first | done | rfl | (simp only [List.length_drop, List.length_take]; rfl)) ?_
    with_reducible refine (dA.calls a0_0 a0_1 (wrap64 (a1 + x15_1)) a2 t340 _ A8.out).mono ?_
    rintro e w11 ⟨rfl, hb⟩
    refine ⟨_, rfl, ?_⟩
    have n0_ := aa.mk (aD (g := kR) (o := .cells #[.int .i64 a0_0, .int .i64 a0_1] 61 (0, 0)) (by (with_reducible repeat (first | refine al ?_ _ | refine ao ?_ | refine an ?_ _)); exact ee.out) hb)
    have n1_ := aa.mk (ar (by repeat (first | (with_reducible first | exact HB.out | apply ag | apply af | apply ah | refine ak ?_ nv.out) | exact HB.out)) hb)
    clear ee
    clear HB
    have ee := n0_
    have HB := n1_
    clear n0_ n1_
    (try clear hb)
    (try clear hb2)
    (try clear hk)
    (try clear hi)
    refine hK.out _ _ ⟨(ai ee.out 0).trans rfl, (ai ee.out 1).trans rfl⟩ (fun hHeld => ?_)
    clear hK K
    refine gC (a' := ?_) ?_ ?_
    rotate_left
    ·show Act.put _ (some 24) _ = _
     simp only [Act.put, List.setIfInBounds_toArray, List.set_cons_zero, List.set_cons_succ, a8, bf]
     rfl
    refine jv (i := 14) (N := some 32) #[true, true, true, true, true, true, true, true, true, true, true, true, true, true, true, false, false, false] rfl rfl (eO HT_.out (by kernel_rfl)) (by decide) (fun K hK => ?_)
    refine gD Tryz.func79 (by kernel_rfl) rfl #[.agg #[.int .i64 a0_0, .int .i64 a0_1], .int .i64 (wrap64 (a1 + x15_1)), .int .i64 (wrap64 (a2 + a4))] (by rfl) rfl rfl (by (try simp only [List.map_toArray, List.map_cons, List.map_nil]); first | done | rfl | (simp only [List.length_drop, List.length_take]; rfl)) ?_
    with_reducible refine (dA.calls a0_0 a0_1 (wrap64 (a1 + x15_1)) (wrap64 (a2 + a4)) t341 _ A9.out).mono ?_
    rintro e w12 ⟨rfl, hb⟩
    refine ⟨_, rfl, ?_⟩
    have n0_ := aa.mk (aD (g := kR) (o := .cells #[.int .i64 a0_0, .int .i64 a0_1] 61 (0, 0)) (by (with_reducible repeat (first | refine al ?_ _ | refine ao ?_ | refine an ?_ _)); exact ee.out) hb)
    have n1_ := aa.mk (ar (by repeat (first | (with_reducible first | exact HB.out | apply ag | apply af | apply ah | refine ak ?_ nv.out) | exact HB.out)) hb)
    clear ee
    clear HB
    have ee := n0_
    have HB := n1_
    clear n0_ n1_
    (try clear hb)
    (try clear hb2)
    (try clear hk)
    (try clear hi)
    refine hK.out _ _ ⟨(ai ee.out 0).trans rfl, (ai ee.out 1).trans rfl⟩ (fun hHeld => ?_)
    clear hK K
    refine gC (a' := ?_) ?_ ?_
    rotate_left
    ·show Act.put _ (some 32) _ = _
     simp only [Act.put, List.setIfInBounds_toArray, List.set_cons_zero, List.set_cons_succ, a8, bf]
     rfl
    refine bO (i := 15) (N := some 33) (v := ?_) (a' := ?_) #[true, true, true, true, true, true, true, true, true, true, true, true, true, true, true, true, false, false] rfl rfl (bx HT_.out (by kernel_rfl)) (fun _ _ _ h => h) (Or.inl ⟨by rfl, ?_⟩) ?_ ?_
    rotate_left
    ·intro w'
     go_simp
     with_reducible rfl
    rotate_left
    ·simp only [Act.put, List.setIfInBounds_toArray, List.set_cons_zero, List.set_cons_succ, a8, bf]
     rfl
    refine bO (i := 16) (N := some 34) (v := ?_) (a' := ?_) #[true, true, true, true, true, true, true, true, true, true, true, true, true, true, true, true, true, false] rfl rfl (bx HT_.out (by kernel_rfl)) (fun _ _ _ h => h) (Or.inl ⟨by rfl, ?_⟩) ?_ ?_
    rotate_left
    ·intro w'
     go_simp
     with_reducible rfl
    rotate_left
    ·simp only [Act.put, List.setIfInBounds_toArray, List.set_cons_zero, List.set_cons_succ, a8, bf]
     rfl
    refine bO (i := 17) (N := some 11) (v := ?_) (a' := ?_) #[true, true, true, true, true, true, true, true, true, true, true, true, true, true, true, true, true, true] rfl rfl (bx HT_.out (by kernel_rfl)) (fun _ _ _ h => h) (Or.inl ⟨by rfl, ?_⟩) ?_ ?_
    rotate_left
    ·intro w'
     go_simp
     with_reducible rfl
    rotate_left
    ·simp only [Act.put, List.setIfInBounds_toArray, List.set_cons_zero, List.set_cons_succ, a8, bf]
     rfl
    refine mq (iU HT_.out (by kernel_rfl)) ?_
    try go_wp2
    go_roundg k1
    case measure => have := HK1.out; omega
    case rel => exact ⟨(Go.bits .or .u64 x11_1 (Go.bits .or .u64 t340 t341)), (wrap64 (x15_1 + 1)), (by first | rfl | (simp; done) | (simp [*]; done)), (by first | rfl | (simp; done) | (simp [*]; done)), H', ⟨by have := HK1.out; omega⟩, ⟨by (with_reducible repeat (first | refine al ?_ _ | refine ao ?_ | refine an ?_ _)); exact ee.out⟩, ⟨by repeat (first | (with_reducible first | exact HB.out | apply ag | apply af | apply ah | refine ak ?_ nv.out) | exact HB.out)⟩⟩
   ·rw [if_neg c7] at H
    have c7b0 : decide (x15_1 < a3) = false := decide_eq_false c7
    clear c7
    have H' := aa.mk H
    clear H
    go_wp2
    go_loopg [11, 37] k1 (fun kq v11 v37 w' => ∃ (x11_2 : Int) (x37_2 : Int), v11 = .int .u64 x11_2 ∧ v37 = .int .i64 x37_2 ∧ aa (ay.l1 kq a1 a2 a3 x11_2 a4 x37_2 a0_0 a0_1 = some r) ∧ aa (kq ≤ k1) ∧ aa (w'.heap[kR]? = some (.cells #[.int .i64 a0_0, .int .i64 a0_1] 61 (0, 0))) ∧ aa (Below w.heap.size w w'))
    case atStart => exact ⟨(x11_1), (0), (by first | rfl | (simp; done) | (simp [*]; done)), (by first | rfl | (simp; done) | (simp [*]; done)), H', ⟨Nat.le_refl _⟩, ⟨by (with_reducible repeat (first | refine al ?_ _ | refine ao ?_ | refine an ?_ _)); exact ee.out⟩, ⟨by repeat (first | (with_reducible first | exact HB.out | apply ag | apply af | apply ah | refine ak ?_ nv.out) | exact HB.out)⟩⟩
    case round =>
     clear H'
     try clear c1
     try clear p2
     try clear p6
     try clear c7
     try clear c7b0
     try clear p2
     obtain ⟨x11_2, x37_2, rfl, rfl, HA, HK2, ee, HB⟩ := hrel
     cases gk with
     | zero => exact absurd HA.out (by simp [ay.l1])
     | succ k2 =>
      have H := HA.out
      clear HA
      simp only [ay.l1] at H
      by_cases c13 : x37_2 < a4
      ·rw [if_pos c13] at H
       have c13b0 : decide (x37_2 < a4) = true := decide_eq_true c13
       clear c13
       replace H := Option.bind_eq_some_iff.mp H
       obtain ⟨t342, A140, H⟩ := H
       replace H : ((bU.f a0_0 a0_1 (wrap64 (a1 + a3)) (wrap64 (a2 + x37_2))).bind fun t343 => (ay.l1 k2 a1 a2 a3 (Go.bits .or .u64 x11_2 (Go.bits .or .u64 t342 t343)) a4 (wrap64 (x37_2 + 1)) a0_0 a0_1)) = some r := H
       have A14 := aa.mk A140
       clear A140
       replace H := Option.bind_eq_some_iff.mp H
       obtain ⟨t343, A150, H⟩ := H
       replace H : (ay.l1 k2 a1 a2 a3 (Go.bits .or .u64 x11_2 (Go.bits .or .u64 t342 t343)) a4 (wrap64 (x37_2 + 1)) a0_0 a0_1) = some r := H
       have A15 := aa.mk A150
       clear A150
       have H' := aa.mk H
       clear H
       try go_wp2
       have n0_ := aa.mk (ao ee.out)
       have n1_ := aa.mk (ah HB.out)
       clear ee
       clear HB
       have ee := n0_
       have HB := n1_
       clear n0_ n1_
       refine j6 (n := 18) (S := fun w' => w'.cell? ⟨kR, 0, none⟩ = some (.int .i64 a0_0) ∧ w'.cell? ⟨kR, 1, none⟩ = some (.int .i64 a0_1)) (ds := []) #[false, false, false, false, false, false, false, false, false, false, false, false, false, false, false, false, false, false] (by kernel_rfl) rfl rfl ⟨(ai ee.out 0).trans rfl, (ai ee.out 1).trans rfl⟩ (fun hHeld => ?_); refine fS ay.Ep ay.D0 (fun HT_ HW_ => ?_)
       generalize wr.drew = w16 at ee HB hHeld ⊢
       refine bO (i := 0) (N := some 40) (v := ?_) (a' := ?_) #[true, false, false, false, false, false, false, false, false, false, false, false, false, false, false, false, false, false] rfl rfl (bx HT_.out (by kernel_rfl)) (fun _ _ _ h => h) (Or.inl ⟨by rfl, ?_⟩) ?_ ?_
       rotate_left
       ·intro w'
        go_simp
        with_reducible rfl
       rotate_left
       ·simp only [Act.put, List.setIfInBounds_toArray, List.set_cons_zero, List.set_cons_succ, a8, bf]
        rfl
       refine bO (i := 2) (N := some 42) (v := ?_) (a' := ?_) #[true, false, true, false, false, false, false, false, false, false, false, false, false, false, false, false, false, false] rfl rfl (bx HT_.out (by kernel_rfl)) (fun _ _ _ h => h) (Or.inl ⟨by rfl, ?_⟩) ?_ ?_
       rotate_left
       ·intro w'
        go_simp
        with_reducible rfl
       rotate_left
       ·simp only [Act.put, List.setIfInBounds_toArray, List.set_cons_zero, List.set_cons_succ, a8, bf]
        rfl
       refine bO (i := 3) (N := some 43) (v := ?_) (a' := ?_) #[true, false, true, true, false, false, false, false, false, false, false, false, false, false, false, false, false, false] rfl rfl (bx HT_.out (by kernel_rfl)) (fun _ _ _ h => h) (Or.inl ⟨by rfl, ?_⟩) ?_ ?_
       rotate_left
       ·intro w'
        go_simp
        with_reducible rfl
       rotate_left
       ·simp only [Act.put, List.setIfInBounds_toArray, List.set_cons_zero, List.set_cons_succ, a8, bf]
        rfl
       refine bO (i := 4) (N := some 44) (v := ?_) (a' := ?_) #[true, false, true, true, true, false, false, false, false, false, false, false, false, false, false, false, false, false] rfl rfl (bx HT_.out (by kernel_rfl)) (fun _ _ _ h => h) (Or.inl ⟨by rfl, ?_⟩) ?_ ?_
       rotate_left
       ·intro w'
        go_simp
        with_reducible rfl
       rotate_left
       ·simp only [Act.put, List.setIfInBounds_toArray, List.set_cons_zero, List.set_cons_succ, a8, bf]
        rfl
       refine bO (i := 5) (N := some 45) (v := ?_) (a' := ?_) #[true, false, true, true, true, true, false, false, false, false, false, false, false, false, false, false, false, false] rfl rfl (bx HT_.out (by kernel_rfl)) (fun _ _ _ h => h) (Or.inl ⟨by rfl, ?_⟩) ?_ ?_
       rotate_left
       ·intro w'
        go_simp
        with_reducible rfl
       rotate_left
       ·simp only [Act.put, List.setIfInBounds_toArray, List.set_cons_zero, List.set_cons_succ, a8, bf]
        rfl
       refine bO (i := 8) (N := some 48) (v := ?_) (a' := ?_) #[true, false, true, true, true, true, false, false, true, false, false, false, false, false, false, false, false, false] rfl rfl (bx HT_.out (by kernel_rfl)) (fun _ _ _ h => h) (Or.inl ⟨by rfl, ?_⟩) ?_ ?_
       rotate_left
       ·intro w'
        go_simp
        with_reducible rfl
       rotate_left
       ·simp only [Act.put, List.setIfInBounds_toArray, List.set_cons_zero, List.set_cons_succ, a8, bf]
        rfl
       refine bO (i := 9) (N := some 49) (v := ?_) (a' := ?_) #[true, false, true, true, true, true, false, false, true, true, false, false, false, false, false, false, false, false] rfl rfl (bx HT_.out (by kernel_rfl)) (fun _ _ _ h => h) (Or.inl ⟨by rfl, ?_⟩) ?_ ?_
       rotate_left
       ·intro w'
        go_simp
        with_reducible rfl
       rotate_left
       ·simp only [Act.put, List.setIfInBounds_toArray, List.set_cons_zero, List.set_cons_succ, a8, bf]
        rfl
       refine bO (i := 10) (N := some 50) (v := ?_) (a' := ?_) #[true, false, true, true, true, true, false, false, true, true, true, false, false, false, false, false, false, false] rfl rfl (bx HT_.out (by kernel_rfl)) (fun _ _ _ h => h) (Or.inl ⟨by rfl, ?_⟩) ?_ ?_
       rotate_left
       ·intro w'
        go_simp
        with_reducible rfl
       rotate_left
       ·simp only [Act.put, List.setIfInBounds_toArray, List.set_cons_zero, List.set_cons_succ, a8, bf]
        rfl
       refine bO (i := 11) (N := some 51) (v := ?_) (a' := ?_) #[true, false, true, true, true, true, false, false, true, true, true, true, false, false, false, false, false, false] rfl rfl (bx HT_.out (by kernel_rfl)) (fun _ _ _ h => h) (Or.inl ⟨by rfl, ?_⟩) ?_ ?_
       rotate_left
       ·intro w'
        go_simp
        with_reducible rfl
       rotate_left
       ·simp only [Act.put, List.setIfInBounds_toArray, List.set_cons_zero, List.set_cons_succ, a8, bf]
        rfl
       refine bO (i := 12) (N := some 52) (v := ?_) (a' := ?_) #[true, false, true, true, true, true, false, false, true, true, true, true, true, false, false, false, false, false] rfl rfl (bx HT_.out (by kernel_rfl)) (fun _ _ _ h => h) (Or.inl ⟨by rfl, ?_⟩) ?_ ?_
       rotate_left
       ·intro w'
        go_simp
        with_reducible rfl
       rotate_left
       ·simp only [Act.put, List.setIfInBounds_toArray, List.set_cons_zero, List.set_cons_succ, a8, bf]
        rfl
       refine bO (i := 13) (N := some 53) (v := ?_) (a' := ?_) #[true, false, true, true, true, true, false, false, true, true, true, true, true, true, false, false, false, false] rfl rfl (bx HT_.out (by kernel_rfl)) (fun _ _ _ h => h) (Or.inl ⟨by rfl, ?_⟩) ?_ ?_
       rotate_left
       ·intro w'
        go_simp
        with_reducible rfl
       rotate_left
       ·simp only [Act.put, List.setIfInBounds_toArray, List.set_cons_zero, List.set_cons_succ, a8, bf]
        rfl
       refine eW (i := 1) (N := some 41) (v := ?_) (a' := ?_) #[true, true, true, true, true, true, false, false, true, true, true, true, true, true, false, false, false, false] rfl rfl (cV HT_.out HW_.out (by kernel_rfl)) (fun _ _ _ h => h) (Or.inl ⟨by rfl, ?_⟩) hHeld ?_ ?_
       rotate_left
       ·rintro w' ⟨s0, s1⟩
        go_simp
        with_reducible rfl
       rotate_left
       ·simp only [Act.put, List.setIfInBounds_toArray, List.set_cons_zero, List.set_cons_succ, a8, bf]
        rfl
       refine eW (i := 7) (N := some 47) (v := ?_) (a' := ?_) #[true, true, true, true, true, true, false, true, true, true, true, true, true, true, false, false, false, false] rfl rfl (cV HT_.out HW_.out (by kernel_rfl)) (fun _ _ _ h => h) (Or.inl ⟨by rfl, ?_⟩) hHeld ?_ ?_
       rotate_left
       ·rintro w' ⟨s0, s1⟩
        go_simp
        with_reducible rfl
       rotate_left
       ·simp only [Act.put, List.setIfInBounds_toArray, List.set_cons_zero, List.set_cons_succ, a8, bf]
        rfl
       refine jv (i := 6) (N := some 46) #[true, true, true, true, true, true, true, true, true, true, true, true, true, true, false, false, false, false] rfl rfl (eO HT_.out (by kernel_rfl)) (by decide) (fun K hK => ?_)
       refine gD Tryz.func78 (by kernel_rfl) rfl #[.agg #[.int .i64 a0_0, .int .i64 a0_1], .int .i64 a1, .int .i64 (wrap64 (a2 + x37_2))] (by rfl) rfl rfl (by (try simp only [List.map_toArray, List.map_cons, List.map_nil]); first | done | rfl | (simp only [List.length_drop, List.length_take]; rfl)) ?_
       with_reducible refine (bU.calls a0_0 a0_1 a1 (wrap64 (a2 + x37_2)) t342 _ A14.out).mono ?_
       rintro e w17 ⟨rfl, hb⟩
       refine ⟨_, rfl, ?_⟩
       have n0_ := aa.mk (aD (g := kR) (o := .cells #[.int .i64 a0_0, .int .i64 a0_1] 61 (0, 0)) (by (with_reducible repeat (first | refine al ?_ _ | refine ao ?_ | refine an ?_ _)); exact ee.out) hb)
       have n1_ := aa.mk (ar (by repeat (first | (with_reducible first | exact HB.out | apply ag | apply af | apply ah | refine ak ?_ nv.out) | exact HB.out)) hb)
       clear ee
       clear HB
       have ee := n0_
       have HB := n1_
       clear n0_ n1_
       (try clear hb)
       (try clear hb2)
       (try clear hk)
       (try clear hi)
       refine hK.out _ _ ⟨(ai ee.out 0).trans rfl, (ai ee.out 1).trans rfl⟩ (fun hHeld => ?_)
       clear hK K
       refine gC (a' := ?_) ?_ ?_
       rotate_left
       ·show Act.put _ (some 46) _ = _
        simp only [Act.put, List.setIfInBounds_toArray, List.set_cons_zero, List.set_cons_succ, a8, bf]
        rfl
       refine jv (i := 14) (N := some 54) #[true, true, true, true, true, true, true, true, true, true, true, true, true, true, true, false, false, false] rfl rfl (eO HT_.out (by kernel_rfl)) (by decide) (fun K hK => ?_)
       refine gD Tryz.func78 (by kernel_rfl) rfl #[.agg #[.int .i64 a0_0, .int .i64 a0_1], .int .i64 (wrap64 (a1 + a3)), .int .i64 (wrap64 (a2 + x37_2))] (by rfl) rfl rfl (by (try simp only [List.map_toArray, List.map_cons, List.map_nil]); first | done | rfl | (simp only [List.length_drop, List.length_take]; rfl)) ?_
       with_reducible refine (bU.calls a0_0 a0_1 (wrap64 (a1 + a3)) (wrap64 (a2 + x37_2)) t343 _ A15.out).mono ?_
       rintro e w18 ⟨rfl, hb⟩
       refine ⟨_, rfl, ?_⟩
       have n0_ := aa.mk (aD (g := kR) (o := .cells #[.int .i64 a0_0, .int .i64 a0_1] 61 (0, 0)) (by (with_reducible repeat (first | refine al ?_ _ | refine ao ?_ | refine an ?_ _)); exact ee.out) hb)
       have n1_ := aa.mk (ar (by repeat (first | (with_reducible first | exact HB.out | apply ag | apply af | apply ah | refine ak ?_ nv.out) | exact HB.out)) hb)
       clear ee
       clear HB
       have ee := n0_
       have HB := n1_
       clear n0_ n1_
       (try clear hb)
       (try clear hb2)
       (try clear hk)
       (try clear hi)
       refine hK.out _ _ ⟨(ai ee.out 0).trans rfl, (ai ee.out 1).trans rfl⟩ (fun hHeld => ?_)
       clear hK K
       refine gC (a' := ?_) ?_ ?_
       rotate_left
       ·show Act.put _ (some 54) _ = _
        simp only [Act.put, List.setIfInBounds_toArray, List.set_cons_zero, List.set_cons_succ, a8, bf]
        rfl
       refine bO (i := 15) (N := some 55) (v := ?_) (a' := ?_) #[true, true, true, true, true, true, true, true, true, true, true, true, true, true, true, true, false, false] rfl rfl (bx HT_.out (by kernel_rfl)) (fun _ _ _ h => h) (Or.inl ⟨by rfl, ?_⟩) ?_ ?_
       rotate_left
       ·intro w'
        go_simp
        with_reducible rfl
       rotate_left
       ·simp only [Act.put, List.setIfInBounds_toArray, List.set_cons_zero, List.set_cons_succ, a8, bf]
        rfl
       refine bO (i := 16) (N := some 56) (v := ?_) (a' := ?_) #[true, true, true, true, true, true, true, true, true, true, true, true, true, true, true, true, true, false] rfl rfl (bx HT_.out (by kernel_rfl)) (fun _ _ _ h => h) (Or.inl ⟨by rfl, ?_⟩) ?_ ?_
       rotate_left
       ·intro w'
        go_simp
        with_reducible rfl
       rotate_left
       ·simp only [Act.put, List.setIfInBounds_toArray, List.set_cons_zero, List.set_cons_succ, a8, bf]
        rfl
       refine bO (i := 17) (N := some 11) (v := ?_) (a' := ?_) #[true, true, true, true, true, true, true, true, true, true, true, true, true, true, true, true, true, true] rfl rfl (bx HT_.out (by kernel_rfl)) (fun _ _ _ h => h) (Or.inl ⟨by rfl, ?_⟩) ?_ ?_
       rotate_left
       ·intro w'
        go_simp
        with_reducible rfl
       rotate_left
       ·simp only [Act.put, List.setIfInBounds_toArray, List.set_cons_zero, List.set_cons_succ, a8, bf]
        rfl
       refine mq (iU HT_.out (by kernel_rfl)) ?_
       try go_wp2
       go_roundg k2
       case measure => have := HK1.out; have := HK2.out; omega
       case rel => exact ⟨(Go.bits .or .u64 x11_2 (Go.bits .or .u64 t342 t343)), (wrap64 (x37_2 + 1)), (by first | rfl | (simp; done) | (simp [*]; done)), (by first | rfl | (simp; done) | (simp [*]; done)), H', ⟨by have := HK1.out; have := HK2.out; omega⟩, ⟨by (with_reducible repeat (first | refine al ?_ _ | refine ao ?_ | refine an ?_ _)); exact ee.out⟩, ⟨by repeat (first | (with_reducible first | exact HB.out | apply ag | apply af | apply ah | refine ak ?_ nv.out) | exact HB.out)⟩⟩
      ·rw [if_neg c13] at H
       have c13b0 : decide (x37_2 < a4) = false := decide_eq_false c13
       clear c13
       obtain rfl := Option.some.inj H
       go_wp2
       go_ret
       exact ⟨by first | rfl | (simp [av, au] <;> rfl) | (simp [*, av, au] <;> rfl), by repeat (first | (with_reducible first | exact HB.out | apply ag | apply af | apply ah | refine ak ?_ nv.out) | exact HB.out)⟩
end Go.Proofs.YtmjlmloomkodpaaGreatDoor.PA
namespace Go.Proofs.YtmjlmloomkodpaaGreatDoor.PA
open Go.RowKit Go.Proofs.ae.aw Go.Proofs.ae.aJ Go.Proofs.ae.aN
attribute [local go_sem] bo bm bC bB a6 aZ bn bj
set_option linter.unusedVariables false
set_option linter.unusedSimpArgs false
mutual
def aE.l0 : Nat → List (dm) → Int → Int → Int → Option ((List (dm)))
 | 0, _, _, _, _ => none
 | k + 1, x3, x4, x345000, x345001 => if x4 ≤ (mn x345000 x345001) then (aE.l1 k x3 x4 0 x345000 x345001) else (some x3)
def aE.l1 : Nat → List (dm) → Int → Int → Int → Int → Option ((List (dm)))
 | 0, _, _, _, _, _ => none
 | k + 1, x3, x4, x5, x345000, x345001 => if (wrap64 (x5 + x4)) ≤ x345001 then (aE.l2 k x3 x4 x5 0 x345000 x345001) else (aE.l0 k x3 (wrap64 (x4 + 1)) x345000 x345001)
def aE.l2 : Nat → List (dm) → Int → Int → Int → Int → Int → Option ((List (dm)))
 | 0, _, _, _, _, _, _ => none
 | k + 1, x3, x4, x5, x6, x345000, x345001 => if (wrap64 (x6 + x4)) ≤ x345000 then ((ay.f k x345000 x345001 x6 x5 x4 x4).bind fun t348 => (if x3.length < 4398046511104 then (aE.l2 k (x3 ++ [(⟨x6, x5, x4, t348⟩ : dm)]) x4 x5 (wrap64 (x6 + 1)) x345000 x345001) else (none))) else (aE.l1 k x3 x4 (wrap64 (x5 + 1)) x345000 x345001)
end
def aE.f (k : Nat) (a0_0 : Int) (a0_1 : Int) : Option ((List (dm))) := aE.l0 k (([] : List (dm))) 1 a0_0 a0_1
theorem aE.ie : ∀ k, (∀ y0 y1 y2 y3, LeO (aE.l0 k y0 y1 y2 y3) (aE.l0 (k + 1) y0 y1 y2 y3)) ∧ (∀ y0 y1 y2 y3 y4, LeO (aE.l1 k y0 y1 y2 y3 y4) (aE.l1 (k + 1) y0 y1 y2 y3 y4)) ∧ (∀ y0 y1 y2 y3 y4 y5, LeO (aE.l2 k y0 y1 y2 y3 y4 y5) (aE.l2 (k + 1) y0 y1 y2 y3 y4 y5))
 | 0 => ⟨fun _ _ _ _ r h => by simp [aE.l0] at h, fun _ _ _ _ _ r h => by simp [aE.l1] at h, fun _ _ _ _ _ _ r h => by simp [aE.l2] at h⟩
 | k + 1 => by
  obtain ⟨ih0, ih1, ih2⟩ := aE.ie k
  refine ⟨?_, ?_, ?_⟩
  ·intro y0 y1 y2 y3
   unfold aE.l0
   repeat' first
   | (with_reducible exact ih0 _ _ _ _)
   | (with_reducible exact ih1 _ _ _ _ _)
   | (with_reducible exact ih2 _ _ _ _ _ _)
   | (with_reducible exact ay.mono _ _ _ _ _ _ _)
   | (with_reducible exact LeO.refl _)
   | (with_reducible exact LeO.none _)
   | (with_reducible refine LeO.ite ?_ ?_)
   | (with_reducible refine LeO.bind ?_ (fun _ => ?_))
   | exact ih0 _ _ _ _
   | exact ih1 _ _ _ _ _
   | exact ih2 _ _ _ _ _ _
   | exact ay.mono _ _ _ _ _ _ _
   | exact LeO.none _
   | refine LeO.ite ?_ ?_
   | refine LeO.bind ?_ (fun _ => ?_)
  ·intro y0 y1 y2 y3 y4
   unfold aE.l1
   repeat' first
   | (with_reducible exact ih0 _ _ _ _)
   | (with_reducible exact ih1 _ _ _ _ _)
   | (with_reducible exact ih2 _ _ _ _ _ _)
   | (with_reducible exact ay.mono _ _ _ _ _ _ _)
   | (with_reducible exact LeO.refl _)
   | (with_reducible exact LeO.none _)
   | (with_reducible refine LeO.ite ?_ ?_)
   | (with_reducible refine LeO.bind ?_ (fun _ => ?_))
   | exact ih0 _ _ _ _
   | exact ih1 _ _ _ _ _
   | exact ih2 _ _ _ _ _ _
   | exact ay.mono _ _ _ _ _ _ _
   | exact LeO.none _
   | refine LeO.ite ?_ ?_
   | refine LeO.bind ?_ (fun _ => ?_)
  ·intro y0 y1 y2 y3 y4 y5
   unfold aE.l2
   repeat' first
   | (with_reducible exact ih0 _ _ _ _)
   | (with_reducible exact ih1 _ _ _ _ _)
   | (with_reducible exact ih2 _ _ _ _ _ _)
   | (with_reducible exact ay.mono _ _ _ _ _ _ _)
   | (with_reducible exact LeO.refl _)
   | (with_reducible exact LeO.none _)
   | (with_reducible refine LeO.ite ?_ ?_)
   | (with_reducible refine LeO.bind ?_ (fun _ => ?_))
   | exact ih0 _ _ _ _
   | exact ih1 _ _ _ _ _
   | exact ih2 _ _ _ _ _ _
   | exact ay.mono _ _ _ _ _ _ _
   | exact LeO.none _
   | refine LeO.ite ?_ ?_
   | refine LeO.bind ?_ (fun _ => ?_)
theorem aE.mono : ∀ a0 a1 k, LeO (aE.f k a0 a1) (aE.f (k + 1) a0 a1) := by
 intro a0 a1 k
 obtain ⟨ih0, ih1, ih2⟩ := aE.ie k
 unfold aE.f
 repeat' first
   | (with_reducible exact ih0 _ _ _ _)
   | (with_reducible exact ih1 _ _ _ _ _)
   | (with_reducible exact ih2 _ _ _ _ _ _)
   | (with_reducible exact ay.mono _ _ _ _ _ _ _)
   | (with_reducible exact LeO.refl _)
   | (with_reducible exact LeO.none _)
   | (with_reducible refine LeO.ite ?_ ?_)
   | (with_reducible refine LeO.bind ?_ (fun _ => ?_))
   | exact ih0 _ _ _ _
   | exact ih1 _ _ _ _ _
   | exact ih2 _ _ _ _ _ _
   | exact ay.mono _ _ _ _ _ _ _
   | exact LeO.none _
   | refine LeO.ite ?_ ?_
   | refine LeO.bind ?_ (fun _ => ?_)
set_option maxHeartbeats 8000000 in
set_option maxRecDepth 100000 in
theorem aE.calls (k : Nat) (a0_0 : Int) (a0_1 : Int) (r : List (dm)) (w : World) (h : aE.f k a0_0 a0_1 = some r) :
  Calls Tryz.prog 108 #[.agg #[.int .i64 a0_0, .int .i64 a0_1]] w fun e w' => ∃ v0_ : Value, e = .returned (v0_) ∧ Kd.R gf 152 w' w.heap.size (fun _ => True) v0_ r ∧ Below w.heap.size w w' := by
 have hu61 := Tryz.underlying61
 have hu152 := Tryz.underlying152
 have HB := aa.mk (Below.refl w.heap.size w)
 have H : (aE.l0 k (([] : List (dm))) 1 a0_0 a0_1) = some r := h
 clear h
 obtain ⟨y345, hy345⟩ : ∃ y_ : List (dm), y_ = (([] : List (dm))) := ⟨_, rfl⟩
 replace H : (aE.l0 k y345 1 a0_0 a0_1) = some r := by first | (rw [hy345]; with_reducible exact H) | (have H2_ := (Option.bind_some _ _).symm.trans H; rw [hy345]; with_reducible exact H2_) | (have H2_ := (Option.bind_some _ _).symm.trans H; with_reducible exact H2_) | with_reducible exact H | (rw [hy345]; exact H) | exact H
 have Ny345 := aa.mk hy345
 clear hy345
 have H' := aa.mk H
 clear H
 go_enter Tryz.func108, Tryz.ntmps108
 go_wp2_with (first | ((with_reducible refine aV (N := 1) rfl ?_); refine aM ?hg (N := 1) ?hd (cs := #[.int .i64 a0_0, .int .i64 a0_1]) (t := 61) ?hr ?_; (case hd => rfl); (case hg => rfl); (case hr => first | (go_simp; done) | (go_simp; rfl)); intro gZ hg w2 hbox hb; have n0_ := aa.mk (ar (by repeat (first | (with_reducible first | exact HB.out | apply ag | apply af | apply ah) | exact HB.out)) hb); have n1_ := aa.mk (hbox); have n2_ := aa.mk ((by rw [hg]; exact (aq (by repeat (first | (with_reducible first | exact HB.out | apply ag | apply af | apply ah) | exact HB.out))) : w.heap.size ≤ gZ)); have n3_ := aa.mk ((by rw [hg]; exact (aq (by repeat (first | (with_reducible first | exact HB.out | apply ag | apply af | apply ah) | exact HB.out))) : w.heap.size ≤ gZ)); clear HB; have HB := n0_; have dI := n1_; have GW344 := n2_; have kU := n3_; clear n0_ n1_ n2_ n3_; clear hb hbox hg) | ((with_reducible refine aV (N := 7) rfl ?_); refine Kd.qa gf _ 152 ?hg (N := 7) ?hd (xs := ([] : List (dm))) (inner := []) (ok := fun _ => True) (okp := fun _ => True) ?hr ?hp (fun _ hk => hk) trivial (Below.refl _ _) (Nat.le_refl _) (by simp) ?_; (case hd => rfl); (case hg => rfl); (case hr => first | (go_simp; done) | (go_simp; rfl)); (case hp => exact (gu.none _ _)); intro v346 w3 ho4 hb hg_ hnew_; clear hg_ hnew_; (first | rw [← Ny345.out] at ho4 | (simp only [Int.reduceToNat] at ho4; rw [← Ny345.out] at ho4)); have n0_ := aa.mk (Kd.cW ho4 (aq (by repeat (first | (with_reducible first | exact HB.out | apply ag | apply af | apply ah | refine ak ?_ kU.out) | exact HB.out)))); have n1_ := aa.mk (aD (g := gZ) (o := .cells #[.int .i64 a0_0, .int .i64 a0_1] 61 (0, 0)) (by (with_reducible repeat (first | refine al ?_ _ | refine ao ?_ | refine an ?_ _)); exact dI.out) hb); have n2_ := aa.mk (ar (by repeat (first | (with_reducible first | exact HB.out | apply ag | apply af | apply ah | refine ak ?_ kU.out) | exact HB.out)) hb); clear dI; clear HB; have FD := n0_; have dI := n1_; have HB := n2_; clear n0_ n1_ n2_; clear hb ho4))
 go_loopg [3, 4] k (fun kq v3 v4 w' => ∃ (x3_1 : List (dm)) (x4_1 : Int), v4 = .int .i64 x4_1 ∧ aa (aE.l0 kq x3_1 x4_1 a0_0 a0_1 = some r) ∧ aa (kq ≤ k) ∧ aa (Kd.R gf 152 w' w.heap.size (fun _ => True) v3 x3_1) ∧ aa (w'.heap[gZ]? = some (.cells #[.int .i64 a0_0, .int .i64 a0_1] 61 (0, 0))) ∧ aa (Below w.heap.size w w'))
 case atStart => exact ⟨(y345), (1), (by first | rfl | (simp; done) | (simp [*]; done)), H', ⟨Nat.le_refl _⟩, ⟨by (with_reducible repeat (first | apply Kd.aH | apply Kd.aG | apply Kd.aQ)); exact FD.out⟩, ⟨by (with_reducible repeat (first | refine al ?_ _ | refine ao ?_ | refine an ?_ _)); exact dI.out⟩, ⟨by repeat (first | (with_reducible first | exact HB.out | apply ag | apply af | apply ah | refine ak ?_ kU.out) | exact HB.out)⟩⟩
 case round =>
  clear H'
  try clear c1
  try clear p2
  obtain ⟨x3_1, x4_1, rfl, HA, HK1, lK, dI, HB⟩ := hrel
  cases gk with
  | zero => exact absurd HA.out (by simp [aE.l0])
  | succ k1 =>
   have H := HA.out
   clear HA
   simp only [aE.l0] at H
   obtain ⟨ji5, hji5⟩ : ∃ j_ : Int, (mn a0_0 a0_1) = j_ := ⟨_, rfl⟩
   replace H : (if x4_1 ≤ (ji5) then (aE.l1 k1 x3_1 x4_1 0 a0_0 a0_1) else (some x3_1)) = some r := by first | (rw [hji5] at H; exact H) | (simp only [hji5] at H ⊢; exact H)
   have hji5_ : (if a0_1 < a0_0 then a0_1 else a0_0) = ji5 := hji5
   by_cases c6 : x4_1 ≤ (ji5)
   ·rw [if_pos c6] at H
    have c6b0 : decide (x4_1 ≤ (ji5)) = true := decide_eq_true c6
    clear c6
    have H' := aa.mk H
    clear H
    have jA : wr.cell? ⟨gZ, 0, none⟩ = some (.int .i64 a0_0) := (ai dI.out 0).trans rfl
    have jz : wr.cell? ⟨gZ, 1, none⟩ = some (.int .i64 a0_1) := (ai dI.out 1).trans rfl
    have jy := aj dI.out 0
    have jx := aj dI.out 1
    go_wp2
    go_loopg [3, 5] k1 (fun kq v3 v5 w' => ∃ (x3_2 : List (dm)) (x5_2 : Int), v5 = .int .i64 x5_2 ∧ aa (aE.l1 kq x3_2 x4_1 x5_2 a0_0 a0_1 = some r) ∧ aa (kq ≤ k1) ∧ aa (Kd.R gf 152 w' w.heap.size (fun _ => True) v3 x3_2) ∧ aa (w'.heap[gZ]? = some (.cells #[.int .i64 a0_0, .int .i64 a0_1] 61 (0, 0))) ∧ aa (Below w.heap.size w w'))
    case atStart => exact ⟨(x3_1), (0), (by first | rfl | (simp; done) | (simp [*]; done)), H', ⟨Nat.le_refl _⟩, ⟨by (with_reducible repeat (first | apply Kd.aH | apply Kd.aG | apply Kd.aQ)); exact lK.out⟩, ⟨by (with_reducible repeat (first | refine al ?_ _ | refine ao ?_ | refine an ?_ _)); exact dI.out⟩, ⟨by repeat (first | (with_reducible first | exact HB.out | apply ag | apply af | apply ah | refine ak ?_ kU.out) | exact HB.out)⟩⟩
    case round =>
     clear H'
     try clear c1
     try clear p2
     try clear c6
     try clear c6b0
     try clear jA
     try clear jz
     try clear jy
     try clear jx
     try clear p2
     obtain ⟨x3_2, x5_2, rfl, HA, HK2, lK, dI, HB⟩ := hrel
     cases gk with
     | zero => exact absurd HA.out (by simp [aE.l1])
     | succ k2 =>
      have H := HA.out
      clear HA
      simp only [aE.l1] at H
      by_cases c8 : (wrap64 (x5_2 + x4_1)) ≤ a0_1
      ·rw [if_pos c8] at H
       have c8b0 : decide ((wrap64 (x5_2 + x4_1)) ≤ a0_1) = true := decide_eq_true c8
       clear c8
       have H' := aa.mk H
       clear H
       have gS : wr.cell? ⟨gZ, 0, none⟩ = some (.int .i64 a0_0) := (ai dI.out 0).trans rfl
       have gR : wr.cell? ⟨gZ, 1, none⟩ = some (.int .i64 a0_1) := (ai dI.out 1).trans rfl
       have gQ := aj dI.out 0
       have gP := aj dI.out 1
       go_wp2
       go_loopg [3, 6] k2 (fun kq v3 v6 w' => ∃ (x3_3 : List (dm)) (x6_3 : Int), v6 = .int .i64 x6_3 ∧ aa (aE.l2 kq x3_3 x4_1 x5_2 x6_3 a0_0 a0_1 = some r) ∧ aa (kq ≤ k2) ∧ aa (Kd.R gf 152 w' w.heap.size (fun _ => True) v3 x3_3) ∧ aa (w'.heap[gZ]? = some (.cells #[.int .i64 a0_0, .int .i64 a0_1] 61 (0, 0))) ∧ aa (Below w.heap.size w w'))
       case atStart => exact ⟨(x3_2), (0), (by first | rfl | (simp; done) | (simp [*]; done)), H', ⟨Nat.le_refl _⟩, ⟨by (with_reducible repeat (first | apply Kd.aH | apply Kd.aG | apply Kd.aQ)); exact lK.out⟩, ⟨by (with_reducible repeat (first | refine al ?_ _ | refine ao ?_ | refine an ?_ _)); exact dI.out⟩, ⟨by repeat (first | (with_reducible first | exact HB.out | apply ag | apply af | apply ah | refine ak ?_ kU.out) | exact HB.out)⟩⟩
       case round =>
        clear H'
        try clear c1
        try clear p2
        try clear c6
        try clear c6b0
        try clear p6
        try clear c8
        try clear c8b0
        try clear jA
        try clear jz
        try clear gS
        try clear gR
        try clear jy
        try clear jx
        try clear gQ
        try clear gP
        try clear p2
        obtain ⟨x3_3, x6_3, rfl, HA, HK3, lK, dI, HB⟩ := hrel
        cases gk with
        | zero => exact absurd HA.out (by simp [aE.l2])
        | succ k3 =>
         have H := HA.out
         clear HA
         simp only [aE.l2] at H
         by_cases c10 : (wrap64 (x6_3 + x4_1)) ≤ a0_0
         ·rw [if_pos c10] at H
          have c10b0 : decide ((wrap64 (x6_3 + x4_1)) ≤ a0_0) = true := decide_eq_true c10
          clear c10
          replace H := Option.bind_eq_some_iff.mp H
          obtain ⟨t348, A110, H⟩ := H
          replace H : (if x3_3.length < 4398046511104 then (aE.l2 k3 (x3_3 ++ [(⟨x6_3, x5_2, x4_1, t348⟩ : dm)]) x4_1 x5_2 (wrap64 (x6_3 + 1)) a0_0 a0_1) else (none)) = some r := H
          have A11 := aa.mk A110
          clear A110
          by_cases c12 : x3_3.length < 4398046511104
          ·rw [if_pos c12] at H
           have LMc12 := aa.mk c12
           clear c12
           obtain ⟨y349, hy349⟩ : ∃ y_ : List (dm), y_ = (x3_3 ++ [(⟨x6_3, x5_2, x4_1, t348⟩ : dm)]) := ⟨_, rfl⟩
           replace H : (aE.l2 k3 y349 x4_1 x5_2 (wrap64 (x6_3 + 1)) a0_0 a0_1) = some r := by first | (rw [hy349]; with_reducible exact H) | (have H2_ := (Option.bind_some _ _).symm.trans H; rw [hy349]; with_reducible exact H2_) | (have H2_ := (Option.bind_some _ _).symm.trans H; with_reducible exact H2_) | with_reducible exact H | (rw [hy349]; exact H) | exact H
           have Ny349 := aa.mk hy349
           clear hy349
           have H' := aa.mk H
           clear H
           have o6 : wr.cell? ⟨gZ, 0, none⟩ = some (.int .i64 a0_0) := (ai dI.out 0).trans rfl
           have o5 : wr.cell? ⟨gZ, 1, none⟩ = some (.int .i64 a0_1) := (ai dI.out 1).trans rfl
           have oY := aj dI.out 0
           have oX := aj dI.out 1
           go_wp2_with (first | ((with_reducible refine az (f := 141) rfl ?_); refine bI (some 42) rfl rfl Tryz.func141 (by kernel_rfl) rfl #[.agg #[.int .i64 a0_0, .int .i64 a0_1], .int .i64 x6_3, .int .i64 x5_2, .int .i64 x4_1, .int .i64 x4_1] rfl (by (try simp only [List.map_toArray, List.map_cons, List.map_nil]); first | done | rfl | (simp only [List.length_drop, List.length_take]; rfl)) ?_; (with_reducible refine (ay.calls k3 a0_0 a0_1 x6_3 x5_2 x4_1 x4_1 t348 _ A11.out).mono ?_); rintro e w14 ⟨rfl, hb⟩; refine ⟨_, rfl, ?_⟩; have n0_ := aa.mk (Kd.cx (by (with_reducible repeat (first | apply Kd.aH | apply Kd.aG | apply Kd.aQ)); exact lK.out) hb); have n1_ := aa.mk (aD (g := gZ) (o := .cells #[.int .i64 a0_0, .int .i64 a0_1] 61 (0, 0)) (by (with_reducible repeat (first | refine al ?_ _ | refine ao ?_ | refine an ?_ _)); exact dI.out) hb); have n2_ := aa.mk (ar (by repeat (first | (with_reducible first | exact HB.out | apply ag | apply af | apply ah | refine ak ?_ kU.out) | exact HB.out)) hb); clear lK; clear dI; clear HB; have lK := n0_; have dI := n1_; have HB := n2_; clear n0_ n1_ n2_; (try clear hb); (try clear hb2); (try clear hk); (try clear hi)) | ((with_reducible refine cH (b := .append) (xs := #[.tmp 33, .tmp 44]) rfl ?_); at_builtin; refine Kd.eb gf (w0 := w) w.heap.size rfl (.tmp 33) (.tmp 44) 122 152 (.agg #[(.int .i64 0), (.int .i64 0), (.int .i64 0), (.int .u64 0)]) 32 rfl Tryz.underlying122 rC rfl (by decide) (by omega) u3 x3_3 (⟨x6_3, x5_2, x4_1, t348⟩ : dm) [.int .i64 x6_3, .int .i64 x5_2, .int .i64 x4_1, .int .u64 t348] (fun _ => True) (fun _ => False) rfl rfl ?aP (fun _ hk => hk.elim) ?aF ?aO ?aB ?aS ?aL ?_; (case aP => exact tK _ _ _ (⟨x6_3, x5_2, x4_1, t348⟩ : dm)); (case aB => exact (by repeat (first | (with_reducible first | exact HB.out | apply ag | apply af | apply ah | refine ak ?_ kU.out) | exact HB.out))); (case aF => exact (fun _ _ => trivial)); (case aO => exact (by (with_reducible repeat (first | apply Kd.aH | apply Kd.aG | apply Kd.aQ)); exact lK.out)); (case aS => exact (aq (by repeat (first | (with_reducible first | exact HB.out | apply ag | apply af | apply ah | refine ak ?_ kU.out) | exact HB.out)))); (case aL => have := LMc12.out; omega); intro v350 w15 ho hb hg hat; rw [← Ny349.out] at ho; have n0_ := aa.mk (eM (g := gZ) (o := .cells #[.int .i64 a0_0, .int .i64 a0_1] 61 (0, 0)) (by (with_reducible repeat (first | refine al ?_ _ | refine ao ?_ | refine an ?_ _)); exact dI.out) hg (Kd.jF lK.out dI.out (by decide))); have n1_ := aa.mk (hb); have n2_ := aa.mk (ho); clear dI; clear HB; clear lK; have dI := n0_; have HB := n1_; have FC := n2_; clear n0_ n1_ n2_; clear ho hb hg hat))
           go_roundg k3
           case measure => have := HK1.out; have := HK2.out; have := HK3.out; omega
           case rel => exact ⟨(y349), (wrap64 (x6_3 + 1)), (by first | rfl | (simp; done) | (simp [*]; done)), H', ⟨by have := HK1.out; have := HK2.out; have := HK3.out; omega⟩, ⟨by (with_reducible repeat (first | apply Kd.aH | apply Kd.aG | apply Kd.aQ)); exact FC.out⟩, ⟨by (with_reducible repeat (first | refine al ?_ _ | refine ao ?_ | refine an ?_ _)); exact dI.out⟩, ⟨by repeat (first | (with_reducible first | exact HB.out | apply ag | apply af | apply ah | refine ak ?_ kU.out) | exact HB.out)⟩⟩
          ·rw [if_neg c12] at H
           exact absurd H (by simp)
         ·rw [if_neg c10] at H
          have c10b0 : decide ((wrap64 (x6_3 + x4_1)) ≤ a0_0) = false := decide_eq_false c10
          clear c10
          have H' := aa.mk H
          clear H
          have l5 : wr.cell? ⟨gZ, 0, none⟩ = some (.int .i64 a0_0) := (ai dI.out 0).trans rfl
          have l4 : wr.cell? ⟨gZ, 1, none⟩ = some (.int .i64 a0_1) := (ai dI.out 1).trans rfl
          have lZ := aj dI.out 0
          have lY := aj dI.out 1
          go_wp2
          go_roundg k3
          case measure => have := HK1.out; have := HK2.out; have := HK3.out; omega
          case rel => exact ⟨(x3_3), (wrap64 (x5_2 + 1)), (by first | rfl | (simp; done) | (simp [*]; done)), H', ⟨by have := HK1.out; have := HK2.out; have := HK3.out; omega⟩, ⟨by (with_reducible repeat (first | apply Kd.aH | apply Kd.aG | apply Kd.aQ)); exact lK.out⟩, ⟨by (with_reducible repeat (first | refine al ?_ _ | refine ao ?_ | refine an ?_ _)); exact dI.out⟩, ⟨by repeat (first | (with_reducible first | exact HB.out | apply ag | apply af | apply ah | refine ak ?_ kU.out) | exact HB.out)⟩⟩
      ·rw [if_neg c8] at H
       have c8b0 : decide ((wrap64 (x5_2 + x4_1)) ≤ a0_1) = false := decide_eq_false c8
       clear c8
       have H' := aa.mk H
       clear H
       have wP : wr.cell? ⟨gZ, 0, none⟩ = some (.int .i64 a0_0) := (ai dI.out 0).trans rfl
       have wO : wr.cell? ⟨gZ, 1, none⟩ = some (.int .i64 a0_1) := (ai dI.out 1).trans rfl
       have wh := aj dI.out 0
       have wg := aj dI.out 1
       go_wp2
       go_roundg k2
       case measure => have := HK1.out; have := HK2.out; omega
       case rel => exact ⟨(x3_2), (wrap64 (x4_1 + 1)), (by first | rfl | (simp; done) | (simp [*]; done)), H', ⟨by have := HK1.out; have := HK2.out; omega⟩, ⟨by (with_reducible repeat (first | apply Kd.aH | apply Kd.aG | apply Kd.aQ)); exact lK.out⟩, ⟨by (with_reducible repeat (first | refine al ?_ _ | refine ao ?_ | refine an ?_ _)); exact dI.out⟩, ⟨by repeat (first | (with_reducible first | exact HB.out | apply ag | apply af | apply ah | refine ak ?_ kU.out) | exact HB.out)⟩⟩
   ·rw [if_neg c6] at H
    have c6b0 : decide (x4_1 ≤ (ji5)) = false := decide_eq_false c6
    clear c6
    obtain rfl := Option.some.inj H
    have sA : wr.cell? ⟨gZ, 0, none⟩ = some (.int .i64 a0_0) := (ai dI.out 0).trans rfl
    have sy : wr.cell? ⟨gZ, 1, none⟩ = some (.int .i64 a0_1) := (ai dI.out 1).trans rfl
    have rX := aj dI.out 0
    have rV := aj dI.out 1
    go_wp2
    go_ret
    exact ⟨_, by first | rfl | (simp [av, au] <;> rfl) | (simp only [← hji5]; first | rfl | (simp [av, au] <;> rfl)) | (simp [*, av, au] <;> rfl), by (with_reducible repeat (first | apply Kd.aH | apply Kd.aG | apply Kd.aQ)); exact lK.out, by repeat (first | (with_reducible first | exact HB.out | apply ag | apply af | apply ah | refine ak ?_ kU.out) | exact HB.out)⟩
end Go.Proofs.YtmjlmloomkodpaaGreatDoor.PA
