/- Written for this claim by its session's own programs: contracts of the functions that the law reaches, and the plain law over them (part 4 of 6). -/
import Derived.Test.YtmjlmloomkodpaaGreatDoorSureTaken0
import Derived.Test.YtmjlmloomkodpaaGreatDoorSureTaken1
import Derived.Test.YtmjlmloomkodpaaGreatDoorSureTaken2
import Derived.Test.YtmjlmloomkodpaaGreatDoorSureTaken3
namespace Go.Proofs.YtmjlmloomkodpaaGreatDoor.PA
open Go.RowKit Go.Proofs.ae.aw Go.Proofs.ae.aJ Go.Proofs.ae.aN
attribute [local go_sem] bo bm bC bB a6 aZ bn bj
set_option linter.unusedVariables false
set_option linter.unusedSimpArgs false
def rowAt (W : World) (g : Nat) : Option Nat := (W.cell? ⟨g, 0, none⟩).bind Value.ownBlock
structure Fr (g : Nat) (W W' : World) : Prop where
 size : W.heap.size ≤ W'.heap.size
 yb : ∀ k, k < W.heap.size → k ≠ g → some k ≠ rowAt W g → W'.heap[k]? = W.heap[k]?
 row : rowAt W' g = rowAt W g ∨ ∃ b, rowAt W' g = some b ∧ W.heap.size ≤ b
theorem oa {g : Nat} {W W' : World} (hg : g < W.heap.size) (h : Below W.heap.size W W') : rowAt W' g = rowAt W g := by
 unfold rowAt
 rw [h.cell (p := ⟨g, 0, none⟩) hg]
theorem Fr.en {g : Nat} {W W' : World} (hg : g < W.heap.size) (h : Below W.heap.size W W') : Fr g W W' := ⟨h.size, fun k hk _ _ => h.block k hk, .inl (oa hg h)⟩
theorem Fr.refl {g : Nat} (W : World) : Fr g W W := ⟨Nat.le_refl _, fun _ _ _ _ => rfl, .inl rfl⟩
theorem Fr.trans {g : Nat} {W W1 W2 : World} (h : Fr g W W1) (k : Fr g W1 W2) : Fr g W W2 := by
 refine ⟨Nat.le_trans h.size k.size, fun i hi hg hr => ?_, ?_⟩
 ·refine (k.yb i (Nat.lt_of_lt_of_le hi h.size) hg ?_).trans (h.yb i hi hg hr)
  rcases h.row with e | ⟨b, e, hb⟩
  ·rw [e]; exact hr
  ·rw [e]; intro e2; injection e2 with e2; omega
 ·rcases k.row with e | ⟨b, e, hb⟩
  ·rcases h.row with e2 | ⟨b, e2, hb⟩
   ·exact .inl (e.trans e2)
   ·exact .inr ⟨b, e.trans e2, hb⟩
  ·exact .inr ⟨b, e, Nat.le_trans h.size hb⟩
structure Safe (g : Nat) (W : World) (k : Nat) : Prop where
 lt : k < W.heap.size
 ne : k ≠ g
 nr : some k ≠ rowAt W g
theorem Safe.fr {g k : Nat} {W W' : World} (h : Safe g W k) (f : Fr g W W') : Safe g W' k := by
 refine ⟨Nat.lt_of_lt_of_le h.lt f.size, h.ne, ?_⟩
 rcases f.row with e | ⟨b, e, hb⟩
 ·rw [e]; exact h.nr
 ·rw [e]; intro e2; injection e2 with e2; have := h.lt; omega
theorem Safe.blk {g k : Nat} {W W' : World} {o : Obj} (h : Safe g W k) (f : Fr g W W') (hb : W.heap[k]? = some o) : W'.heap[k]? = some o := (f.yb k h.lt h.ne h.nr).trans hb
structure GOk (g : Nat) (W : World) : Prop where
 lt : g < W.heap.size
 row : ∀ b, rowAt W g = some b → b < W.heap.size
theorem Safe.new {g k : Nat} {W W' : World} (h : GOk g W) (hb : Below W.heap.size W W') (hk : W.heap.size ≤ k) (hk2 : k < W'.heap.size) : Safe g W' k := by
 refine ⟨hk2, fun e => by have := h.lt; omega, fun e => ?_⟩
 rw [oa h.lt hb] at e
 have := h.row k e.symm
 omega
structure kP (g : Nat) (gF : Nat) (lb : Array Value) (f : Int → List Int) (I : List Int → World → Prop) : Prop where
 eg : ∀ args w, (callFunc gF args).run Tryz.prog w = .ok (.enter gF args) w
 ok : ∀ ys W, I ys W → GOk g W
 below : ∀ ys W W', I ys W → Below W.heap.size W W' → I ys W'
 call : ∀ x ys W, I ys W → (ys ++ f x).length ≤ 17592186044416 → Calls Tryz.prog gF (#[.int .u64 x] ++ lb) W fun e w' => e = .returned (.tuple #[]) ∧ I (ys ++ f x) w' ∧ Fr g W w'
def fF : List Int → Nat → Int → List Int
 | [], 0, c => [c]
 | [], _ + 1, _ => []
 | _ :: _, 0, c => [c]
 | b :: t, n + 1, c => fF t n (Go.bits .or .u64 c (shl .u64 1 b)) ++ fF t (n + 1) c
theorem uz (l : List Int) (c : Int) : fF l 0 c = [c] := by cases l <;> rfl
theorem uA (l : List Int) (k n : Nat) (c : Int) (h : k < l.length) : fF (l.drop k) (n + 1) c = fF (l.drop (k + 1)) n (Go.bits .or .u64 c (shl .u64 1 (rd l k))) ++ fF (l.drop (k + 1)) (n + 1) c := by
 rw [gq l k h]
 rfl
theorem th : ∀ (l : List Int) (n : Nat) (c : Int), l.length < n → fF l n c = [] := by
 intro l
 induction l with
 | nil => intro n c h; cases n with
  | zero => simp at h
  | succ n => rfl
 | cons b t ih =>
  intro n c h
  cases n with
  | zero => simp at h
  | succ n =>
   simp only [fF]
   rw [ih n _ (by simp at h; omega), ih (n + 1) _ (by simp at h; omega)]
   rfl
structure re (g : Nat) (gF : Nat) (lb : Array Value) (b5 b6 b7 : Nat) (A : Option Addr) (l : List Int) (c0 : Nat) (W : World) : Prop where
 s5 : Safe g W b5
 s6 : Safe g W b6
 s7 : Safe g W b7
 h5 : W.heap[b5]? = some (.cells #[.func (.func gF) #[] lb] 127 (0, 0))
 h6 : W.heap[b6]? = some (.cells #[.slice A l.length c0] 22 (0, 0))
 h7 : W.heap[b7]? = some (.cells #[.func (.func 170) #[] #[.pointer (some ⟨b5, 0, none⟩), .pointer (some ⟨b6, 0, none⟩), .pointer (some ⟨b7, 0, none⟩)]] 174 (0, 0))
 c : Kd.C (Kd.int .i64) W A l.length l
 sr : ∀ ad, A = some ad → 0 < l.length → Safe g W ad.block
theorem lO {g : Nat} {W W' : World} {A : Option Addr} {l : List Int} (h : Kd.C (Kd.int .i64) W A l.length l) (hs : ∀ ad, A = some ad → 0 < l.length → Safe g W ad.block) (f : Fr g W W') : Kd.C (Kd.int .i64) W' A l.length l := by
 obtain ⟨h1, h2, h3⟩ := h
 refine ⟨h1, h2, fun hn => ?_⟩
 obtain ⟨ad, e, hc⟩ := h3 hn
 have hsafe := hs ad e hn
 refine ⟨ad, e, fun j p hj => ?_⟩
 obtain ⟨c, hcl, hR, hcell⟩ := hc j p hj
 refine ⟨c, hcl, hR, fun i u hu => ?_⟩
 exact (World.cell?_of_block (w := W) (a := ad.add (j * (Kd.int .i64).sz + i)) (by rw [rb]; exact f.yb _ hsafe.lt hsafe.ne hsafe.nr)).trans (hcell i u hu)
theorem re.fr {g gF : Nat} {lb : Array Value} {b5 b6 b7 c0 : Nat} {A : Option Addr} {l : List Int} {W W' : World} (h : re g gF lb b5 b6 b7 A l c0 W) (f : Fr g W W') : re g gF lb b5 b6 b7 A l c0 W' :=
 ⟨h.s5.fr f, h.s6.fr f, h.s7.fr f, h.s5.blk f h.h5, h.s6.blk f h.h6, h.s7.blk f h.h7, lO h.c h.sr f, fun ad e hn => (h.sr ad e hn).fr f⟩
set_option maxHeartbeats 8000000 in
set_option maxRecDepth 100000 in
theorem uf (g gF : Nat) (lb : Array Value) (f : Int → List Int) (I : List Int → World → Prop) (hE : kP g gF lb f I) (b5 b6 b7 : Nat) (A : Option Addr) (l : List Int) (c0 : Nat) (own fr : Int) (ys : List Int) (W : World)
  (hI : I ys W) (hv : re g gF lb b5 b6 b7 A l c0 W) (hlen : (ys ++ f own).length ≤ 17592186044416) :
  Calls Tryz.prog 170 #[.int .u64 own, .int .i64 fr, .int .i64 0, .pointer (some ⟨b5, 0, none⟩), .pointer (some ⟨b6, 0, none⟩), .pointer (some ⟨b7, 0, none⟩)] W fun e w' => e = .returned (.tuple #[]) ∧ I (ys ++ f own) w' ∧ Fr g W w' := by
 have hc5 : W.cell? ⟨b5, 0, none⟩ = some (.func (.func gF) #[] lb) := (ai hv.h5 0).trans rfl
 have eg := hE.eg
 have HC := aa.mk (hE.call own ys W hI hlen)
 clear hE hI hv hlen
 go_enter Tryz.func170, Tryz.ntmps170
 go_wp2_with (go_at_fn gF; refine HC.out.mono ?_; rintro e w' ⟨rfl, h1, h2⟩; have K1 := aa.mk h1; have K2 := aa.mk h2; clear h1 h2)
 refine bodyPost_ret (v := .tuple #[]) (by simp [results, Tryz.results170, go_sem]) rfl ⟨rfl, K1.out, K2.out⟩
set_option maxHeartbeats 8000000 in
set_option maxRecDepth 100000 in
theorem sR (g gF : Nat) (lb : Array Value) (f : Int → List Int) (I : List Int → World → Prop) (hE : kP g gF lb f I) (b5 b6 b7 : Nat) (A : Option Addr) (l : List Int) (c0 : Nat) (hbit : ∀ i : Nat, i < l.length → 0 ≤ rd l i ∧ rd l i ≤ 63) (hl64 : l.length ≤ 64) (n : Nat) : ∀ (own : Int) (fr : Nat) (ys : List Int) (W : World)
  (hI : I ys W) (hv : re g gF lb b5 b6 b7 A l c0 W) (hfr : fr ≤ l.length) (hn : n ≤ 1000) (hlen : (ys ++ (fF (l.drop fr) n own).flatMap f).length ≤ 17592186044416),
  Calls Tryz.prog 170 #[.int .u64 own, .int .i64 (fr : Int), .int .i64 (n : Int), .pointer (some ⟨b5, 0, none⟩), .pointer (some ⟨b6, 0, none⟩), .pointer (some ⟨b7, 0, none⟩)] W fun e w' => e = .returned (.tuple #[]) ∧ I (ys ++ (fF (l.drop fr) n own).flatMap f) w' ∧ Fr g W w' := by
 induction n with
 | zero =>
  intro own fr ys W hI hv hfr hn hlen
  rw [uz, List.flatMap_singleton] at hlen ⊢
  exact uf g gF lb f I hE b5 b6 b7 A l c0 own fr ys W hI hv hlen
 | succ n ih =>
  intro own fr ys W hI hv hfr hn hlen
  have IH := aa.mk ih
  have HE := aa.mk hE
  have HV := aa.mk hv
  have HI := aa.mk hI
  have HLEN := aa.mk hlen
  have HBIT := aa.mk hbit
  clear ih hE hv hI hlen hbit
  have hnb : (n : Int) ≤ 1000 := by omega
  have hz : ((n : Int) + 1 == 0) = false := by rw [beq_eq_false_iff_ne]; omega
  rw [show ((n + 1 : Nat) : Int) = (n : Int) + 1 from rfl]
  go_enter Tryz.func170, Tryz.ntmps170
  go_wp2
  go_loopg [9] (l.length + 1) (fun gg s9 wr => ∃ (kk : Nat) (zs : List Int), kk ≤ l.length ∧ l.length - kk < gg ∧ s9 = .int .i64 (kk : Int) ∧ aa (I zs wr) ∧ aa (Fr g W wr) ∧ aa (zs ++ (fF (l.drop kk) (n + 1) own).flatMap f = ys ++ (fF (l.drop fr) (n + 1) own).flatMap f))
  case atStart => exact ⟨fr, ys, hfr, by omega, rfl, HI, ⟨Fr.refl _⟩, ⟨rfl⟩⟩
  case round =>
   clear HI
   obtain ⟨kk, zs, hkk, hgk, rfl, HI, HF, HT⟩ := hrel
   have HV2 := aa.mk (HV.out.fr HF.out)
   have hc5 : wr.cell? ⟨b6, 0, none⟩ = some (.slice A l.length c0) := (ai HV2.out.h6 0).trans rfl
   have hc7 : wr.cell? ⟨b7, 0, none⟩ = some (.func (.func 170) #[] #[.pointer (some ⟨b5, 0, none⟩), .pointer (some ⟨b6, 0, none⟩), .pointer (some ⟨b7, 0, none⟩)]) := (ai HV2.out.h7 0).trans rfl
   by_cases hlt : kk + (n + 1) ≤ l.length
   ·have hltz : (kk : Int) + ((n : Int) + 1) ≤ (l.length : Int) := by omega
    have hkl : (kk : Int) < (l.length : Int) := by omega
    obtain ⟨ad, had, hcell⟩ := Kd.dv HV2.out.c kk (by omega) hkl
    subst had
    have hcell' : wr.cell? (ad.add kk) = some (.int .i64 (rd l kk)) := hcell
    clear hcell
    have hb2 := HBIT.out kk (by omega)
    have HS := aa.mk (uA l kk n own (by omega))
    generalize rd l kk = b at hcell' HS hb2
    obtain ⟨hb0, hb63⟩ := hb2
    obtain ⟨y, hy⟩ : ∃ y : Int, shl .u64 1 b = y := ⟨_, rfl⟩
    have HS2 := aa.mk (show fF (l.drop kk) (n + 1) own = fF (l.drop (kk + 1)) n (Go.bits .or .u64 own y) ++ fF (l.drop (kk + 1)) (n + 1) own by rw [HS.out, hy])
    have hy1 : (IntKind.u64.wrap (1 * 2 ^ min b.toNat 64)) = y := hy
    have hy2 : (IntKind.u64.wrap (1 * 2 ^ b.toNat)) = y := fT hy (by show b ≤ ((64 : Nat) : Int); omega)
    have hy3 : (IntKind.u64.wrap (2 ^ min b.toNat 64)) = y := by have h_ := hy1; rw [Int.one_mul] at h_; exact h_
    have hy4 : (IntKind.u64.wrap (2 ^ b.toNat)) = y := by have h_ := hy2; rw [Int.one_mul] at h_; exact h_
    clear hy HS
    have hw1 : IntKind.i64.wrap ((kk : Int) + 1) = (kk : Int) + 1 := IntWalk.i64_in _ (by omega)
    have hw2 : IntKind.i64.wrap ((n : Int) + 1 - 1) = (n : Int) := by rw [Int.add_sub_cancel]; exact IntWalk.i64_in _ (by omega)
    have hw3 : IntKind.i64.wrap (n : Int) = (n : Int) := IntWalk.i64_in _ (by omega)
    have HLE := aa.mk (show (zs ++ (fF (l.drop (kk + 1)) n (Go.bits .or .u64 own y)).flatMap f).length ≤ 17592186044416 by
     have h1 := HLEN.out
     rw [← HT.out, HS2.out, List.flatMap_append, ← List.append_assoc, List.length_append] at h1
     omega)
    have HT2 := aa.mk (show (zs ++ (fF (l.drop (kk + 1)) n (Go.bits .or .u64 own y)).flatMap f) ++ (fF (l.drop (kk + 1)) (n + 1) own).flatMap f = ys ++ (fF (l.drop fr) (n + 1) own).flatMap f by rw [← HT.out, HS2.out, List.flatMap_append, List.append_assoc])
    clear HS2 HT
    go_wp2_with fail
    go_still_tail 12, (by kernel_rfl)
    go_wp2_with (go_at_call 170; refine (IH.out (Go.bits .or .u64 own y) (kk + 1) zs _ (HE.out.below _ _ _ HI.out (Below.refl _ _).drew) (HV2.out.fr (Fr.en (HE.out.ok _ _ HI.out).lt (Below.refl _ _).drew)) (by omega) (by omega) HLE.out).mono ?_; rintro e w2 ⟨rfl, h1, h2⟩; have K1 := aa.mk h1; have K2 := aa.mk ((HF.out.trans (Fr.en (HE.out.ok _ _ HI.out).lt (Below.refl _ _).drew)).trans h2); clear h1 h2)
    go_roundg (l.length - kk)
    case measure => omega
    case rel => exact ⟨kk + 1, _, by omega, by omega, by go_num, K1, K2, HT2⟩
   ·have hltz : ¬ (kk : Int) + ((n : Int) + 1) ≤ (l.length : Int) := by omega
    have HS := aa.mk (show zs = ys ++ (fF (l.drop fr) (n + 1) own).flatMap f by rw [← HT.out, th _ _ _ (by rw [List.length_drop]; omega)]; simp)
    go_wp2
    go_end0
    exact ⟨rfl, by rw [← HS.out]; exact HI.out, HF.out⟩
set_option maxHeartbeats 8000000 in
set_option maxRecDepth 100000 in
theorem mc (g gF : Nat) (lb : Array Value) (f : Int → List Int) (I : List Int → World → Prop) (hE : kP g gF lb f I) (k : Nat) (s : Int) (n : Nat) (sl : List Int) (ys : List Int) (W : World) (hT : ej W) (hs : ba.f k s = some sl)
  (hbit : ∀ i : Nat, i < sl.length → 0 ≤ rd sl i ∧ rd sl i ≤ 63) (hl64 : sl.length ≤ 64) (hI : I ys W) (hn : n ≤ 1000) (hlen : (ys ++ (fF sl n 0).flatMap f).length ≤ 17592186044416) :
  Calls Tryz.prog 142 #[.int .u64 s, .int .i64 (n : Int), .func (.func gF) #[] lb] W fun e w' => e = .returned (.tuple #[]) ∧ I (ys ++ (fF sl n 0).flatMap f) w' ∧ Fr g W w' := by
 have HE := aa.mk hE
 have HI := aa.mk hI
 have HT := aa.mk hT
 have HS := aa.mk hs
 have HLEN := aa.mk hlen
 have HBIT := aa.mk hbit
 clear hE hI hT hs hlen hbit
 go_enter Tryz.func142, Tryz.ntmps142
 go_wp2_with fail
 refine (ba.calls k s sl _ (HT.out.below (ag (Below.refl _ _) _)) HS.out).mono ?_
 rintro e w1 ⟨v, rfl, ho, hb⟩
 obtain ⟨A, c0, hv⟩ := Kd.bE ho
 subst hv
 have HO := aa.mk ho
 have HB := aa.mk hb
 clear ho hb
 go_wp2_with fail
 have hb1 : Below w1.heap.size w1 ((w1.alloc (.cells #[.slice A sl.length c0] 22)).alloc (.cells #[.func (.func 170) #[] #[.pointer (some ⟨W.heap.size, 0, none⟩), .pointer (some ⟨w1.heap.size, 0, none⟩), .pointer (some ⟨w1.heap.size + 1, 0, none⟩)]] 174)) := ag (ag (Below.refl _ _) _) _
 have hsz : W.heap.size < w1.heap.size := by have := HB.out.size; simp at this; omega
 have hbW := (ag (Below.refl W.heap.size W) (.cells #[.func (.func gF) #[] lb] 127)).trans ((HB.out.mono (by simp)).trans (hb1.mono (by omega)))
 have hok := HE.out.ok _ _ HI.out
 have henv : re g gF lb W.heap.size w1.heap.size (w1.heap.size + 1) A sl c0 ((w1.alloc (.cells #[.slice A sl.length c0] 22)).alloc (.cells #[.func (.func 170) #[] #[.pointer (some ⟨W.heap.size, 0, none⟩), .pointer (some ⟨w1.heap.size, 0, none⟩), .pointer (some ⟨w1.heap.size + 1, 0, none⟩)]] 174)) := by
  refine ⟨Safe.new hok hbW (Nat.le_refl _) (by simp; omega), Safe.new hok hbW (by omega) (by simp; omega), Safe.new hok hbW (by omega) (by simp), ?_, ?_, ?_, Kd.ax (gM HO.out) hb1, fun ad e hn => Safe.new hok hbW ?_ ?_⟩
  ·rw [hb1.block _ hsz, HB.out.block _ (by simp)]
   exact heap_alloc_new _ _
  ·rw [Below.heap_alloc _ _ _ (by simp)]
   exact heap_alloc_new _ _
  ·have h := heap_alloc_new (w1.alloc (.cells #[.slice A sl.length c0] 22)) (.cells #[.func (.func 170) #[] #[.pointer (some ⟨W.heap.size, 0, none⟩), .pointer (some ⟨w1.heap.size, 0, none⟩), .pointer (some ⟨w1.heap.size + 1, 0, none⟩)]] 174)
   rwa [show (w1.alloc (.cells #[.slice A sl.length c0] 22)).heap.size = w1.heap.size + 1 by simp] at h
  ·have h := Kd.kO HO.out ad.block (by rw [e]; simp [Value.ownBlock])
   simp at h
   omega
  ·have h := Kd.ko HO.out ad.block (by rw [e]; simp [Value.ownBlock])
   simp
   omega
 have hcc := sR g gF lb f I HE.out W.heap.size w1.heap.size (w1.heap.size + 1) A sl c0 HBIT.out hl64 n 0 0 ys _ (HE.out.below _ _ _ HI.out hbW) henv (Nat.zero_le _) hn (by rw [List.drop_zero]; exact HLEN.out)
 rw [List.drop_zero] at hcc
 have HFB := aa.mk (Fr.en hok.lt hbW)
 refine hcc.mono ?_
 clear hcc henv hb1 hbW hok
 rintro e w2 ⟨rfl, h1, h2⟩
 have K1 := aa.mk h1
 have K2 := aa.mk (HFB.out.trans h2)
 clear h1 h2 HFB
 go_wp2
 go_end0
 exact ⟨rfl, K1.out, K2.out⟩
structure qc (g : Nat) (gF : Nat) (lb : Array Value) (be bs bg : Nat) (s gone : Int) (W : World) : Prop where
 se : Safe g W be
 ss : Safe g W bs
 sg : Safe g W bg
 he : W.heap[be]? = some (.cells #[.func (.func gF) #[] lb] 127 (0, 0))
 hs : W.heap[bs]? = some (.cells #[.int .u64 s] 57 (0, 0))
 hg : W.heap[bg]? = some (.cells #[.int .u64 gone] 57 (0, 0))
theorem qc.fr {g gF : Nat} {lb : Array Value} {be bs bg : Nat} {s gone : Int} {W W' : World} (h : qc g gF lb be bs bg s gone W) (f : Fr g W W') : qc g gF lb be bs bg s gone W' :=
 ⟨h.se.fr f, h.ss.fr f, h.sg.fr f, h.se.blk f h.he, h.ss.blk f h.hs, h.sg.blk f h.hg⟩
set_option maxHeartbeats 8000000 in
set_option maxRecDepth 100000 in
theorem yP {g gF : Nat} {lb : Array Value} {f : Int → List Int} {I : List Int → World → Prop} (hE : kP g gF lb f I) (be bs bg : Nat) (s gone : Int) :
  kP g 144 #[.pointer (some ⟨be, 0, none⟩), .pointer (some ⟨bs, 0, none⟩), .pointer (some ⟨bg, 0, none⟩)] (fun put => f (Go.bits .or .u64 (Go.bits .andNot .u64 s gone) put)) (fun ys W => I ys W ∧ qc g gF lb be bs bg s gone W) := by
 refine ⟨fun _ _ => rfl, fun ys W h => hE.ok ys W h.1, fun ys W W' h hb => ⟨hE.below ys W W' h.1 hb, h.2.fr (Fr.en (hE.ok _ _ h.1).lt hb)⟩, ?_⟩
 intro put ys W hI hlen
 have eg := hE.eg
 have HE := aa.mk hE
 have HI := aa.mk hI.1
 have HP := aa.mk hI.2
 have hce : W.cell? ⟨be, 0, none⟩ = some (.func (.func gF) #[] lb) := (ai hI.2.he 0).trans rfl
 have hcs : W.cell? ⟨bs, 0, none⟩ = some (.int .u64 s) := (ai hI.2.hs 0).trans rfl
 have hcg : W.cell? ⟨bg, 0, none⟩ = some (.int .u64 gone) := (ai hI.2.hg 0).trans rfl
 have HC := aa.mk (hE.call (Go.bits .or .u64 (Go.bits .andNot .u64 s gone) put) ys W hI.1 hlen)
 clear hE hI hlen
 have nf : ∀ (x : Value), aa (callFunc gF #[x] = callFunc gF #[x]) := fun _ => ⟨rfl⟩
 show Calls Tryz.prog 144 #[.int .u64 put, .pointer (some ⟨be, 0, none⟩), .pointer (some ⟨bs, 0, none⟩), .pointer (some ⟨bg, 0, none⟩)] W _
 go_enter Tryz.func144, Tryz.ntmps144
 go_wp2_with (go_at_fn gF; refine HC.out.mono ?_; rintro e w' ⟨rfl, h1, h2⟩; have K1 := aa.mk h1; have K2 := aa.mk h2; clear h1 h2)
 go_end0
 exact ⟨rfl, ⟨K1.out, HP.out.fr K2.out⟩, K2.out⟩
structure uq (g gF : Nat) (lb : Array Value) (bw be bs : Nat) (fW fH : Int) (A2 : Option Addr) (c2 : Nat) (l2 : List Int) (A3 : Option Addr) (c3 : Nat) (l3 : List Int) (m : Int) (mv : Bool) (s : Int) (W : World) : Prop where
 sw : Safe g W bw
 se : Safe g W be
 ss : Safe g W bs
 hw : W.heap[bw]? = some (.cells #[.int .i64 fW, .int .i64 fH, .slice A2 l2.length c2, .slice A3 l3.length c3, .int .i64 m, .bool mv] 90 (0, 0))
 he : W.heap[be]? = some (.cells #[.func (.func gF) #[] lb] 127 (0, 0))
 hs : W.heap[bs]? = some (.cells #[.int .u64 s] 57 (0, 0))
 k2 : Kd.C (Kd.int .i64) W A2 l2.length l2
 k3 : Kd.C (Kd.int .i64) W A3 l3.length l3
 s2 : ∀ ad, A2 = some ad → 0 < l2.length → Safe g W ad.block
 s3 : ∀ ad, A3 = some ad → 0 < l3.length → Safe g W ad.block
 n2 : l2.length ≤ c2
 n3 : l3.length ≤ c3
 t : ej W
 tg : Safe g W 0
theorem ej.fr {g : Nat} {W W' : World} (h : ej W) (hs : Safe g W 0) (f : Fr g W W') : ej W' :=
 ⟨Nat.lt_of_lt_of_le h.lt64 f.size, fun j hj => (World.cell?_of_block (w := W) (a := ⟨0, j, none⟩) (f.yb _ hs.lt hs.ne hs.nr)).trans (h.tab64 j hj)⟩
theorem uq.fr {g gF : Nat} {lb : Array Value} {bw be bs : Nat} {fW fH : Int} {A2 : Option Addr} {c2 : Nat} {l2 : List Int} {A3 : Option Addr} {c3 : Nat} {l3 : List Int} {m : Int} {mv : Bool} {s : Int} {W W' : World} (h : uq g gF lb bw be bs fW fH A2 c2 l2 A3 c3 l3 m mv s W) (f : Fr g W W') : uq g gF lb bw be bs fW fH A2 c2 l2 A3 c3 l3 m mv s W' :=
 ⟨h.sw.fr f, h.se.fr f, h.ss.fr f, h.sw.blk f h.hw, h.se.blk f h.he, h.ss.blk f h.hs, lO h.k2 h.s2 f, lO h.k3 h.s3 f, fun ad e hn => (h.s2 ad e hn).fr f, fun ad e hn => (h.s3 ad e hn).fr f, h.n2, h.n3, h.t.fr h.tg f, h.tg.fr f⟩
def ly (frees : List Int) (m : Nat) (mv : Bool) (s gone : Int) : List Int :=
 if mv then (fF frees m 0).map (fun put => Go.bits .or .u64 (Go.bits .andNot .u64 s gone) put) else [Go.bits .andNot .u64 s gone]
set_option maxHeartbeats 8000000 in
set_option maxRecDepth 100000 in
theorem yh {g gF : Nat} {lb : Array Value} {f : Int → List Int} {I : List Int → World → Prop} (hE : kP g gF lb f I) (bw be bs : Nat) (fW fH : Int) (A2 : Option Addr) (c2 : Nat) (l2 : List Int) (A3 : Option Addr) (c3 : Nat) (l3 : List Int) (m : Nat) (mv : Bool) (s all : Int) (k : Nat) (frees : List Int)
  (hall : cj.f fW fH = some all) (hfr : ba.f k (Go.bits .andNot .u64 all s) = some frees) (hbit : ∀ i : Nat, i < frees.length → 0 ≤ rd frees i ∧ rd frees i ≤ 63) (hl64 : frees.length ≤ 64) (hm : m ≤ 1000) :
  kP g 143 #[.pointer (some ⟨bw, 0, none⟩), .pointer (some ⟨be, 0, none⟩), .pointer (some ⟨bs, 0, none⟩)] (fun gone => (ly frees m mv s gone).flatMap f) (fun ys W => I ys W ∧ uq g gF lb bw be bs fW fH A2 c2 l2 A3 c3 l3 m mv s W) := by
 refine ⟨fun _ _ => rfl, fun ys W h => hE.ok ys W h.1, fun ys W W' h hb => ⟨hE.below ys W W' h.1 hb, h.2.fr (Fr.en (hE.ok _ _ h.1).lt hb)⟩, ?_⟩
 intro gone ys W hI hlen
 have eg := hE.eg
 have HE := aa.mk hE
 have HI0 := aa.mk hI
 have HLEN := aa.mk hlen
 have HALL := aa.mk hall
 have HFR := aa.mk hfr
 have HBIT := aa.mk hbit
 clear hE hI hlen hall hfr hbit
 show Calls Tryz.prog 143 #[.int .u64 gone, .pointer (some ⟨bw, 0, none⟩), .pointer (some ⟨be, 0, none⟩), .pointer (some ⟨bs, 0, none⟩)] W _
 go_enter Tryz.func143, Tryz.ntmps143
 cases mv with
 | false =>
  have HL2 := aa.mk (show (ys ++ f (Go.bits .andNot .u64 s gone)).length ≤ 17592186044416 by have h := HLEN.out; simpa [ly] using h)
  rw [show (ly frees m false s gone).flatMap f = f (Go.bits .andNot .u64 s gone) by simp [ly]]
  go_wp2_with (first | ((with_reducible refine aV (N := 4) rfl ?_); refine aM ?hg (N := 4) ?hd (cs := #[.int .u64 gone]) (t := 57) ?hr ?_; (case hd => rfl); (case hg => rfl); (case hr => first | (go_simp; done) | (go_simp; rfl)); intro bg hbg W1 hcg hb1; have hok := HE.out.ok _ _ HI0.out.1; have hF1 := Fr.en hok.lt hb1; have HI := aa.mk (HE.out.below _ _ _ HI0.out.1 hb1); have HV := aa.mk (HI0.out.2.fr hF1); have HSG := aa.mk (Safe.new hok hb1 (Nat.le_of_eq hbg.symm) (a7 hcg)); clear hok; have HF := aa.mk hF1; have HG := aa.mk hcg; clear hF1 hb1 hbg; have DL : W1.cell? ⟨bw, 0, none⟩ = some (.int .i64 fW) := (ai HV.out.hw 0).trans rfl; have DK : W1.cell? ⟨bw, 1, none⟩ = some (.int .i64 fH) := (ai HV.out.hw 1).trans rfl; have DJ : W1.cell? ⟨bw, 2, none⟩ = some (.slice A2 l2.length c2) := (ai HV.out.hw 2).trans rfl; have DI : W1.cell? ⟨bw, 3, none⟩ = some (.slice A3 l3.length c3) := (ai HV.out.hw 3).trans rfl; have DH : W1.cell? ⟨bw, 4, none⟩ = some (.int .i64 m) := (ai HV.out.hw 4).trans rfl; have EE : W1.cell? ⟨bw, 5, none⟩ = some (.bool false) := (ai HV.out.hw 5).trans rfl; have hce : W1.cell? ⟨be, 0, none⟩ = some (.func (.func gF) #[] lb) := (ai HV.out.he 0).trans rfl; have hcs : W1.cell? ⟨bs, 0, none⟩ = some (.int .u64 s) := (ai HV.out.hs 0).trans rfl; have zd : W1.cell? ⟨bg, 0, none⟩ = some (.int .u64 gone) := (ai hcg 0).trans rfl; clear hcg) | (go_at_fn gF; refine (HE.out.call (Go.bits .andNot .u64 s gone) ys _ HI.out HL2.out).mono ?_; rintro e w' ⟨rfl, h1, h2⟩; have K1 := aa.mk h1; have K2 := aa.mk h2; clear h1 h2))
  refine bodyPost_ret (v := .tuple #[]) (by simp [results, Tryz.results143, go_sem]) rfl ⟨rfl, ⟨K1.out, HV.out.fr K2.out⟩, HF.out.trans K2.out⟩
 | true =>
  go_wp2_with ((with_reducible refine aV (N := 4) rfl ?_); refine aM ?hg (N := 4) ?hd (cs := #[.int .u64 gone]) (t := 57) ?hr ?_; (case hd => rfl); (case hg => rfl); (case hr => first | (go_simp; done) | (go_simp; rfl)); intro bg hbg W1 hcg hb1; have hok := HE.out.ok _ _ HI0.out.1; have hF1 := Fr.en hok.lt hb1; have HI := aa.mk (HE.out.below _ _ _ HI0.out.1 hb1); have HV := aa.mk (HI0.out.2.fr hF1); have HSG := aa.mk (Safe.new hok hb1 (Nat.le_of_eq hbg.symm) (a7 hcg)); clear hok; have HF := aa.mk hF1; have HG := aa.mk hcg; clear hF1 hb1 hbg; have DL : W1.cell? ⟨bw, 0, none⟩ = some (.int .i64 fW) := (ai HV.out.hw 0).trans rfl; have DK : W1.cell? ⟨bw, 1, none⟩ = some (.int .i64 fH) := (ai HV.out.hw 1).trans rfl; have DJ : W1.cell? ⟨bw, 2, none⟩ = some (.slice A2 l2.length c2) := (ai HV.out.hw 2).trans rfl; have DI : W1.cell? ⟨bw, 3, none⟩ = some (.slice A3 l3.length c3) := (ai HV.out.hw 3).trans rfl; have DH : W1.cell? ⟨bw, 4, none⟩ = some (.int .i64 m) := (ai HV.out.hw 4).trans rfl; have EE : W1.cell? ⟨bw, 5, none⟩ = some (.bool true) := (ai HV.out.hw 5).trans rfl; have hce : W1.cell? ⟨be, 0, none⟩ = some (.func (.func gF) #[] lb) := (ai HV.out.he 0).trans rfl; have hcs : W1.cell? ⟨bs, 0, none⟩ = some (.int .u64 s) := (ai HV.out.hs 0).trans rfl; have zd : W1.cell? ⟨bg, 0, none⟩ = some (.int .u64 gone) := (ai hcg 0).trans rfl; clear hcg)
  refine iW 9 (by kernel_rfl) (by kernel_rfl) ?_
  simp only [List.take_succ_cons, List.take_zero, List.drop_succ_cons, List.drop_zero]
  have qc0 : ∀ p : aY W1, p.w.cell? ⟨bw, 0, none⟩ = some (.int .i64 fW) := aY.cell DL
  have qc1 : ∀ p : aY W1, p.w.cell? ⟨bw, 1, none⟩ = some (.int .i64 fH) := aY.cell DK
  have qc2 : ∀ p : aY W1, p.w.cell? ⟨bw, 2, none⟩ = some (.slice A2 l2.length c2) := aY.cell DJ
  have qc3 : ∀ p : aY W1, p.w.cell? ⟨bw, 3, none⟩ = some (.slice A3 l3.length c3) := aY.cell DI
  have qc4 : ∀ p : aY W1, p.w.cell? ⟨bw, 4, none⟩ = some (.int .i64 m) := aY.cell DH
  have qcs : ∀ p : aY W1, p.w.cell? ⟨bs, 0, none⟩ = some (.int .u64 s) := aY.cell hcs
  repeat (go_big_quiet_step (first
   | exact aY.ret ((bN.calls fW fH A2 c2 l2 A3 c3 l3 fW fH _ (Kd.ax HV.out.k2 (aY.h _)) HV.out.n2 (Kd.ax HV.out.k3 (aY.h _)) HV.out.n3 rfl))
   | exact aY.ret ((cj.calls fW fH all _ HALL.out))))
  refine wpQuiet_nil ?_
  intro p
  have hlt := (HE.out.ok _ _ HI.out).lt
  have HFp := aa.mk (Fr.en hlt p.h)
  have hIp := HE.out.below _ _ _ HI.out p.h
  have hVp := HV.out.fr HFp.out
  have hPp : qc g gF lb be bs bg s gone p.w := ⟨hVp.se, hVp.ss, HSG.out.fr HFp.out, hVp.he, hVp.hs, HSG.out.blk HFp.out HG.out⟩
  have HSUB := aa.mk (mc g _ _ _ _ (yP HE.out be bs bg s gone) k (Go.bits .andNot .u64 all s) m frees ys p.w hVp.t HFR.out HBIT.out hl64 ⟨hIp, hPp⟩ hm (by
   have h := HLEN.out
   rwa [ly, if_pos rfl, List.flatMap_map] at h))
  have HVp := aa.mk hVp
  clear hIp hPp hVp hlt
  go_wp2_with (go_at_call 142; refine HSUB.out.mono ?_; rintro e w2 ⟨rfl, h1, h2⟩; have K1 := aa.mk h1; have K2 := aa.mk h2; clear h1 h2)
  go_end0
  refine ⟨rfl, ⟨?_, HVp.out.fr K2.out⟩, HF.out.trans (HFp.out.trans K2.out)⟩
  rw [ly, if_pos rfl, List.flatMap_map]
  exact K1.out.1
def lH (haves frees : List Int) (m : Nat) (mv : Bool) (s : Int) : List Int := (fF haves m 0).flatMap (ly frees m mv s)
set_option maxHeartbeats 8000000 in
set_option maxRecDepth 100000 in
theorem va {g gF : Nat} {lb : Array Value} {f : Int → List Int} {I : List Int → World → Prop} (hE : kP g gF lb f I) (fW fH : Int) (A2 : Option Addr) (c2 : Nat) (l2 : List Int) (A3 : Option Addr) (c3 : Nat) (l3 : List Int) (m : Nat) (mv : Bool) (s all : Int) (k : Nat) (haves frees ys : List Int) (W : World)
  (hs : aI.f k fW fH l2 l3 = some s) (hall : cj.f fW fH = some all) (hhv : ba.f k s = some haves) (hfr : ba.f k (Go.bits .andNot .u64 all s) = some frees)
  (hbv : ∀ i : Nat, i < haves.length → 0 ≤ rd haves i ∧ rd haves i ≤ 63) (hv64 : haves.length ≤ 64) (hbit : ∀ i : Nat, i < frees.length → 0 ≤ rd frees i ∧ rd frees i ≤ 63) (hl64 : frees.length ≤ 64) (hm : m ≤ 1000)
  (hI : I ys W) (k2 : Kd.C (Kd.int .i64) W A2 l2.length l2) (k3 : Kd.C (Kd.int .i64) W A3 l3.length l3) (s2 : ∀ ad, A2 = some ad → 0 < l2.length → Safe g W ad.block) (s3 : ∀ ad, A3 = some ad → 0 < l3.length → Safe g W ad.block) (n2 : l2.length ≤ c2) (n3 : l3.length ≤ c3)
  (hT : ej W) (tg : Safe g W 0) (hlen : (ys ++ (lH haves frees m mv s).flatMap f).length ≤ 17592186044416) :
  Calls Tryz.prog 109 #[.agg #[.int .i64 fW, .int .i64 fH, .slice A2 l2.length c2, .slice A3 l3.length c3, .int .i64 (m : Int), .bool mv], .func (.func gF) #[] lb] W fun e w' => e = .returned (.tuple #[]) ∧ I (ys ++ (lH haves frees m mv s).flatMap f) w' ∧ Fr g W w' := by
 have HE := aa.mk hE
 have HI := aa.mk hI
 have HS := aa.mk hs
 have HV := aa.mk hhv
 have HLEN := aa.mk hlen
 have K2 := aa.mk k2
 have K3 := aa.mk k3
 have S2 := aa.mk s2
 have S3 := aa.mk s3
 have HT := aa.mk hT
 have TG := aa.mk tg
 have HALL := aa.mk hall
 have HFR := aa.mk hfr
 have HBIT := aa.mk hbit
 have HBV := aa.mk hbv
 clear hE hI hs hhv hlen k2 k3 s2 s3 hT tg hall hfr hbit hbv
 go_enter Tryz.func109, Tryz.ntmps109
 go_wp2_with fail
 obtain ⟨W2, hW2⟩ : ∃ W2, (W.alloc (.cells #[.int .i64 fW, .int .i64 fH, .slice A2 l2.length c2, .slice A3 l3.length c3, .int .i64 (m : Int), .bool mv] 90)).alloc (.cells #[.func (.func gF) #[] lb] 127) = W2 := ⟨_, rfl⟩
 have hb2 : Below W.heap.size W W2 := by rw [← hW2]; exact ag (ag (Below.refl _ _) _) _
 have hsz2 : W2.heap.size = W.heap.size + 2 := by rw [← hW2]; simp
 have hbw : W2.heap[W.heap.size]? = some (.cells #[.int .i64 fW, .int .i64 fH, .slice A2 l2.length c2, .slice A3 l3.length c3, .int .i64 (m : Int), .bool mv] 90 (0, 0)) := by
  rw [← hW2, Below.heap_alloc _ _ _ (by simp)]
  exact heap_alloc_new _ _
 have hbe : W2.heap[W.heap.size + 1]? = some (.cells #[.func (.func gF) #[] lb] 127 (0, 0)) := by
  have h := heap_alloc_new (W.alloc (.cells #[.int .i64 fW, .int .i64 fH, .slice A2 l2.length c2, .slice A3 l3.length c3, .int .i64 (m : Int), .bool mv] 90)) (.cells #[.func (.func gF) #[] lb] 127)
  rw [show (W.alloc (.cells #[.int .i64 fW, .int .i64 fH, .slice A2 l2.length c2, .slice A3 l3.length c3, .int .i64 (m : Int), .bool mv] 90)).heap.size = W.heap.size + 1 by simp] at h
  rw [← hW2]; exact h
 rw [hW2]
 clear hW2
 refine (aI.calls k fW fH A2 c2 l2 A3 c3 l3 s W2 (Kd.ax K2.out hb2) n2 (Kd.ax K3.out hb2) n3 HS.out).mono ?_
 rintro e w3 ⟨rfl, hb3⟩
 have hc4 : w3.cell? ⟨W.heap.size, 4, none⟩ = some (.int .i64 (m : Int)) := (ai ((hb3.block _ (by omega)).trans hbw) 4).trans rfl
 have HBW := aa.mk hbw
 have HBE := aa.mk hbe
 have HB2 := aa.mk hb2
 have HB3 := aa.mk hb3
 have hlt3 : W.heap.size < w3.heap.size := by have := hb3.size; omega
 clear hbw hbe hb2 hb3
 go_wp2_with fail
 have hok := HE.out.ok _ _ HI.out
 have hbW3 : Below W.heap.size W w3 := HB2.out.trans (HB3.out.mono (by omega))
 have hbW := ag hbW3 (.cells #[.int .u64 s] 57)
 have hF4 := Fr.en hok.lt hbW
 have hI4 := HE.out.below _ _ _ HI.out hbW
 have hVE : uq g gF lb W.heap.size (W.heap.size + 1) w3.heap.size fW fH A2 c2 l2 A3 c3 l3 m mv s (w3.alloc (.cells #[.int .u64 s] 57)) := by
  have h3 := HB3.out.size
  refine ⟨Safe.new hok hbW (Nat.le_refl _) (by simp; omega), Safe.new hok hbW (by omega) (by simp; omega), Safe.new hok hbW (by omega) (by simp), ?_, ?_, heap_alloc_new _ _, lO K2.out S2.out hF4, lO K3.out S3.out hF4, fun ad e hn => (S2.out ad e hn).fr hF4, fun ad e hn => (S3.out ad e hn).fr hF4, n2, n3, HT.out.fr TG.out hF4, TG.out.fr hF4⟩
  ·rw [Below.heap_alloc _ _ _ (by omega)]
   exact (HB3.out.block _ (by omega)).trans HBW.out
  ·rw [Below.heap_alloc _ _ _ (by omega)]
   exact (HB3.out.block _ (by omega)).trans HBE.out
 have HF4 := aa.mk hF4
 refine (mc g _ _ _ _ (yh HE.out W.heap.size (W.heap.size + 1) w3.heap.size fW fH A2 c2 l2 A3 c3 l3 m mv s all k frees HALL.out HFR.out HBIT.out hl64 hm) k s m haves ys _ hVE.t HV.out HBV.out hv64 ⟨hI4, hVE⟩ hm (by have h := HLEN.out; rwa [lH, List.flatMap_assoc] at h)).mono ?_
 clear hok hbW3 hbW hF4 hI4 hVE
 rintro e w5 ⟨rfl, h1, h2⟩
 have K5 := aa.mk h1.1
 have K6 := aa.mk (HF4.out.trans h2)
 clear h1 h2
 go_wp2
 go_end0
 refine ⟨rfl, ?_, K6.out⟩
 rw [lH, List.flatMap_assoc]
 exact K5.out
theorem rf {g : Nat} {W W' : World} {A : Option Addr} {l : List (dm)} (h : Kd.C gf W A l.length l) (hs : ∀ ad, A = some ad → 0 < l.length → Safe g W ad.block) (f : Fr g W W') : Kd.C gf W' A l.length l := by
 obtain ⟨h1, h2, h3⟩ := h
 refine ⟨h1, h2, fun hn => ?_⟩
 obtain ⟨ad, e, hc⟩ := h3 hn
 have hsafe := hs ad e hn
 refine ⟨ad, e, fun j p hj => ?_⟩
 obtain ⟨c, hcl, hR, hcell⟩ := hc j p hj
 refine ⟨c, hcl, hR, fun i u hu => ?_⟩
 exact (World.cell?_of_block (w := W) (a := ad.add (j * gf.sz + i)) (by rw [rb]; exact f.yb _ hsafe.lt hsafe.ne hsafe.nr)).trans (hcell i u hu)
structure qH (g bl bq bt : Nat) (AL : Option Addr) (cL : Nat) (sq : List (dm)) (squares : Int) (tidy : Bool) (base : Nat) (w0 : World) (ys : List Int) (W : World) : Prop where
 sl : Safe g W bl
 sn : Safe g W bq
 st : Safe g W bt
 hl : W.heap[bl]? = some (.cells #[.slice AL sq.length cL] 122 (0, 0))
 hq : W.heap[bq]? = some (.cells #[.int .i64 squares] 3 (0, 0))
 ht : W.heap[bt]? = some (.cells #[.bool tidy] 4 (0, 0))
 kc : Kd.C gf W AL sq.length sq
 sr : ∀ ad, AL = some ad → 0 < sq.length → Safe g W ad.block
 nl : sq.length ≤ cL
 bg : base ≤ g
 hb : Below base w0 W
 out : ∃ v, W.heap[g]? = some (.cells #[v] 88 (0, 0)) ∧ Kd.R (Kd.int .u64) 57 W base (fun _ => True) v ys
theorem qH.lt {g bl bq bt : Nat} {AL : Option Addr} {cL : Nat} {sq : List (dm)} {squares : Int} {tidy : Bool} {base : Nat} {w0 : World} {ys : List Int} {W : World} (h : qH g bl bq bt AL cL sq squares tidy base w0 ys W) : GOk g W := by
 obtain ⟨v, hc, hr⟩ := h.out
 refine ⟨a7 hc, fun b e => ?_⟩
 rw [rowAt, (ai hc 0).trans rfl] at e
 exact Kd.ko hr b e
theorem qH.below {g bl bq bt : Nat} {AL : Option Addr} {cL : Nat} {sq : List (dm)} {squares : Int} {tidy : Bool} {base : Nat} {w0 : World} {ys : List Int} {W W' : World} (h : qH g bl bq bt AL cL sq squares tidy base w0 ys W) (hb : Below W.heap.size W W') : qH g bl bq bt AL cL sq squares tidy base w0 ys W' := by
 have hg := h.lt.lt
 have f := Fr.en hg hb
 obtain ⟨v, hc, hr⟩ := h.out
 exact ⟨h.sl.fr f, h.sn.fr f, h.st.fr f, h.sl.blk f h.hl, h.sn.blk f h.hq, h.st.blk f h.ht, rf h.kc h.sr f, fun ad e hn => (h.sr ad e hn).fr f, h.nl, h.bg, h.hb.trans (hb.mono (by have := h.bg; omega)), v, (hb.block _ hg).trans hc, jt hr hb⟩
theorem qH.app {g bl bq bt : Nat} {AL : Option Addr} {cL : Nat} {sq : List (dm)} {squares : Int} {tidy : Bool} {base : Nat} {w0 : World} {ys ys' : List Int} {W W' : World} {v v' : Value} (h : qH g bl bq bt AL cL sq squares tidy base w0 ys W) (hc : W.heap[g]? = some (.cells #[v] 88 (0, 0))) (hk : cX W W' g v.ownBlock) (hc' : W'.heap[g]? = some (.cells #[v'] 88 (0, 0)))
  (hr' : Kd.R (Kd.int .u64) 57 W' base (fun _ => True) v' ys') (hb' : Below base w0 W') (hat : v'.ownBlock = v.ownBlock ∨ ∃ b, v'.ownBlock = some b ∧ W.heap.size ≤ b) : qH g bl bq bt AL cL sq squares tidy base w0 ys' W' ∧ Fr g W W' := by
 have e1 : rowAt W g = v.ownBlock := by rw [rowAt, (ai hc 0).trans rfl]; rfl
 have e2 : rowAt W' g = v'.ownBlock := by rw [rowAt, (ai hc' 0).trans rfl]; rfl
 have f : Fr g W W' := ⟨hk.1, fun k hl hn hr => hk.2 k hl hn (by rw [← e1]; exact hr), by rw [e1, e2]; exact hat⟩
 exact ⟨⟨h.sl.fr f, h.sn.fr f, h.st.fr f, h.sl.blk f h.hl, h.sn.blk f h.hq, h.st.blk f h.ht, rf h.kc h.sr f, fun ad e hn => (h.sr ad e hn).fr f, h.nl, h.bg, hb', v', hc', hr'⟩, f⟩
theorem vG : (Tryz.prog.info? 57).map (fun i => (i.zero, i.size, i.bytes)) = some (some (.int .u64 0), 1, 8) := by kernel_rfl
def jw (k : Nat) (sq : List (dm)) (squares : Int) (tidy : Bool) (x : Int) : Bool := decide (cG.f k sq x = some squares) && (!tidy || decide (cu.f k sq x = some 0))
set_option maxHeartbeats 8000000 in
set_option maxRecDepth 100000 in
theorem xz (g bl bq bt : Nat) (AL : Option Addr) (cL : Nat) (sq : List (dm)) (squares : Int) (tidy : Bool) (base : Nat) (w0 : World) (k : Nat) (hcnt : ∀ x, ∃ n, cG.f k sq x = some n) (hned : ∀ x, ∃ n, cu.f k sq x = some n) :
  kP g 110 #[.pointer (some ⟨bl, 0, none⟩), .pointer (some ⟨bq, 0, none⟩), .pointer (some ⟨bt, 0, none⟩), .pointer (some ⟨g, 0, none⟩)] (fun x => if jw k sq squares tidy x then [x] else []) (qH g bl bq bt AL cL sq squares tidy base w0) := by
 refine ⟨fun _ _ => rfl, fun ys W h => h.lt, fun ys W W' h hb => h.below hb, ?_⟩
 intro x ys W hI hlen
 obtain ⟨n1, hn1⟩ := hcnt x
 obtain ⟨n2, hn2⟩ := hned x
 have hcl : W.cell? ⟨bl, 0, none⟩ = some (.slice AL sq.length cL) := (ai hI.hl 0).trans rfl
 have hcq : W.cell? ⟨bq, 0, none⟩ = some (.int .i64 squares) := (ai hI.hq 0).trans rfl
 have hct : W.cell? ⟨bt, 0, none⟩ = some (.bool tidy) := (ai hI.ht 0).trans rfl
 have HK : jw k sq squares tidy x = (decide (n1 = squares) && (!tidy || decide (n2 = 0))) := by simp [jw, hn1, hn2]
 have HN1 := aa.mk hn1
 have HN2 := aa.mk hn2
 have HI := aa.mk hI
 have HLEN := aa.mk hlen
 clear hI hlen hn1 hn2 hcnt hned
 show Calls Tryz.prog 110 #[.int .u64 x, .pointer (some ⟨bl, 0, none⟩), .pointer (some ⟨bq, 0, none⟩), .pointer (some ⟨bt, 0, none⟩), .pointer (some ⟨g, 0, none⟩)] W _
 by_cases h1 : n1 = squares
 case neg =>
  have h1b : (n1 == squares) = false := beq_eq_false_iff_ne.mpr h1
  have HK : jw k sq squares tidy x = false := by rw [HK]; simp [h1]
  have ql : ∀ p : aY W, _ := fun p => aY.cell hcl p
  have qq : ∀ p : aY W, _ := fun p => aY.cell hcq p
  rw [show (ys ++ if jw k sq squares tidy x = true then [x] else []) = ys by rw [HK]; simp]
  clear HK
  go_enter Tryz.func110, Tryz.ntmps110
  go_wp2_with fail
  refine dz (by kernel_rfl) (by kernel_rfl) ?_
  repeat (go_big_quiet_step (first
   | (go_at_call 111; exact aY.ret (cG.calls k AL cL sq x _ _ (Kd.ax HI.out.kc (aY.h _)) HI.out.nl HN1.out))
   | (go_at_call 112; exact aY.ret (cu.calls k AL cL sq x _ _ (Kd.ax HI.out.kc (aY.h _)) HI.out.nl HN2.out))))
  refine wpQuiet_nil ?_
  rintro w' ⟨p, rfl⟩
  go_wp2
  go_end0
  exact ⟨rfl, HI.out.below p.h, Fr.en HI.out.lt.lt p.h⟩
 subst h1
 have hEQ : decide (n1 = n1) = true := by simp
 have ql : ∀ p : aY W, _ := fun p => aY.cell hcl p
 have qq : ∀ p : aY W, _ := fun p => aY.cell hcq p
 have qt : ∀ p : aY W, _ := fun p => aY.cell hct p
 cases tidy with
 | false =>
  have HK : jw k sq n1 false x = true := by rw [HK]; simp
  have HL2 := aa.mk (show ys.length < 17592186044416 by have h := HLEN.out; rw [HK] at h; simp at h; omega)
  rw [show (ys ++ if jw k sq n1 false x = true then [x] else []) = ys ++ [x] by rw [HK]; simp]
  clear HK
  go_enter Tryz.func110, Tryz.ntmps110
  go_wp2_with fail
  refine dz (by kernel_rfl) (by kernel_rfl) ?_
  repeat (go_big_quiet_step (first
   | (go_at_call 111; exact aY.ret (cG.calls k AL cL sq x _ _ (Kd.ax HI.out.kc (aY.h _)) HI.out.nl HN1.out))
   | (go_at_call 112; exact aY.ret (cu.calls k AL cL sq x _ _ (Kd.ax HI.out.kc (aY.h _)) HI.out.nl HN2.out))))
  refine wpQuiet_nil ?_
  rintro w' ⟨p, rfl⟩
  obtain ⟨v, hc, hr⟩ := (HI.out.below p.h).out
  obtain ⟨Av, cv, rfl⟩ := Kd.bE hr
  have hcell : p.w.cell? ⟨g, 0, none⟩ = some (.slice Av ys.length cv) := (ai hc 0).trans rfl
  have hfr : p.w.frozen? ⟨g, 0, none⟩ = false := aj hc 0
  have HB := aa.mk (HI.out.below p.h).hb
  have hb : base ≤ p.w.heap.size := by have := (HI.out.below p.h).bg; have := a7 hc; omega
  have HV := aa.mk hr
  have HC := aa.mk hc
  have HNE := aa.mk (Kd.jF hr hc (by decide))
  clear hr hc
  go_wp2_with (first | ((with_reducible refine cH (b := .append) (xs := #[.tmp 21, .tmp 23]) rfl ?_); at_builtin; refine Kd.eb (Kd.int .u64) (w0 := w0) base rfl (.tmp 21) (.tmp 23) 88 57 (.int .u64 0) 8 rfl Tryz.underlying88 vG rfl (by decide) (by omega) (.slice Av ys.length cv) ys x [.int .u64 x] (fun _ => True) (fun _ => False) rfl rfl ?aP (fun _ hk => hk.elim) ?aF ?aO ?aB ?aS ?aL ?_; (case aP => exact rfl); (case aB => exact HB.out); (case aF => exact (fun _ _ => trivial)); (case aO => exact HV.out); (case aS => exact hb); (case aL => have := HL2.out; omega); intro v1 w1 ho hb1 hgr hat; obtain ⟨A1, c1, hv1⟩ := Kd.bE ho; rw [List.length_append, List.length_singleton] at hv1; subst hv1; have HO1 := aa.mk ho; have HB1 := aa.mk hb1; have HAT := aa.mk hat; have HGR := aa.mk hgr; have HC1 := aa.mk (eM HC.out hgr HNE.out); have zf : w1.cell? ⟨g, 0, none⟩ = some (.slice Av ys.length cv) := (ai HC1.out 0).trans rfl; have hfr1 : w1.frozen? ⟨g, 0, none⟩ = false := aj HC1.out 0; clear ho hb1 hat hgr hcell hfr))
  go_end0
  have hfin := (HI.out.below p.h).app HC.out ((cX.ka HGR.out g).Ar 0 _) (bF HC1.out 0 _ rfl) (Kd.kn HO1.out HC1.out (by decide) 0 _) ((HB1.out).setCell HI.out.bg _) HAT.out
  exact ⟨rfl, hfin.1, (Fr.en HI.out.lt.lt p.h).trans hfin.2⟩
 | true =>
  by_cases h2 : n2 = 0
  case pos =>
   subst h2
   have HK : jw k sq n1 true x = true := by rw [HK]; simp
   have HL2 := aa.mk (show ys.length < 17592186044416 by have h := HLEN.out; rw [HK] at h; simp at h; omega)
   rw [show (ys ++ if jw k sq n1 true x = true then [x] else []) = ys ++ [x] by rw [HK]; simp]
   clear HK
   go_enter Tryz.func110, Tryz.ntmps110
   go_wp2_with fail
   refine dz (by kernel_rfl) (by kernel_rfl) ?_
   repeat (go_big_quiet_step (first
    | (go_at_call 111; exact aY.ret (cG.calls k AL cL sq x _ _ (Kd.ax HI.out.kc (aY.h _)) HI.out.nl HN1.out))
    | (go_at_call 112; exact aY.ret (cu.calls k AL cL sq x _ _ (Kd.ax HI.out.kc (aY.h _)) HI.out.nl HN2.out))))
   refine wpQuiet_nil ?_
   rintro w' ⟨p, rfl⟩
   obtain ⟨v, hc, hr⟩ := (HI.out.below p.h).out
   obtain ⟨Av, cv, rfl⟩ := Kd.bE hr
   have hcell : p.w.cell? ⟨g, 0, none⟩ = some (.slice Av ys.length cv) := (ai hc 0).trans rfl
   have hfr : p.w.frozen? ⟨g, 0, none⟩ = false := aj hc 0
   have HB := aa.mk (HI.out.below p.h).hb
   have hb : base ≤ p.w.heap.size := by have := (HI.out.below p.h).bg; have := a7 hc; omega
   have HV := aa.mk hr
   have HC := aa.mk hc
   have HNE := aa.mk (Kd.jF hr hc (by decide))
   clear hr hc
   go_wp2_with (first | ((with_reducible refine cH (b := .append) (xs := #[.tmp 21, .tmp 23]) rfl ?_); at_builtin; refine Kd.eb (Kd.int .u64) (w0 := w0) base rfl (.tmp 21) (.tmp 23) 88 57 (.int .u64 0) 8 rfl Tryz.underlying88 vG rfl (by decide) (by omega) (.slice Av ys.length cv) ys x [.int .u64 x] (fun _ => True) (fun _ => False) rfl rfl ?aP (fun _ hk => hk.elim) ?aF ?aO ?aB ?aS ?aL ?_; (case aP => exact rfl); (case aB => exact HB.out); (case aF => exact (fun _ _ => trivial)); (case aO => exact HV.out); (case aS => exact hb); (case aL => have := HL2.out; omega); intro v1 w1 ho hb1 hgr hat; obtain ⟨A1, c1, hv1⟩ := Kd.bE ho; rw [List.length_append, List.length_singleton] at hv1; subst hv1; have HO1 := aa.mk ho; have HB1 := aa.mk hb1; have HAT := aa.mk hat; have HGR := aa.mk hgr; have HC1 := aa.mk (eM HC.out hgr HNE.out); have zf : w1.cell? ⟨g, 0, none⟩ = some (.slice Av ys.length cv) := (ai HC1.out 0).trans rfl; have hfr1 : w1.frozen? ⟨g, 0, none⟩ = false := aj HC1.out 0; clear ho hb1 hat hgr hcell hfr))
   go_end0
   have hfin := (HI.out.below p.h).app HC.out ((cX.ka HGR.out g).Ar 0 _) (bF HC1.out 0 _ rfl) (Kd.kn HO1.out HC1.out (by decide) 0 _) ((HB1.out).setCell HI.out.bg _) HAT.out
   exact ⟨rfl, hfin.1, (Fr.en HI.out.lt.lt p.h).trans hfin.2⟩

  case neg =>
   have h2b : (n2 == 0) = false := beq_eq_false_iff_ne.mpr h2
   have HK : jw k sq n1 true x = false := by rw [HK]; simp [h2]
   rw [show (ys ++ if jw k sq n1 true x = true then [x] else []) = ys by rw [HK]; simp]
   clear HK
   go_enter Tryz.func110, Tryz.ntmps110
   go_wp2_with fail
   refine dz (by kernel_rfl) (by kernel_rfl) ?_
   repeat (go_big_quiet_step (first
    | (go_at_call 111; exact aY.ret (cG.calls k AL cL sq x _ _ (Kd.ax HI.out.kc (aY.h _)) HI.out.nl HN1.out))
    | (go_at_call 112; exact aY.ret (cu.calls k AL cL sq x _ _ (Kd.ax HI.out.kc (aY.h _)) HI.out.nl HN2.out))))
   refine wpQuiet_nil ?_
   rintro w' ⟨p, rfl⟩
   go_wp2
   go_end0
   exact ⟨rfl, HI.out.below p.h, Fr.en HI.out.lt.lt p.h⟩
theorem tw (l : List (dm)) (i : Nat) (h : i < l.length) : l.drop i = de l (i : Int) :: l.drop (i + 1) := by
 rw [de, Int.toNat_natCast, List.getD_eq_getElem?_getD, List.getElem?_eq_getElem h, Option.getD_some]
 exact List.drop_eq_getElem_cons h
theorem ve (x : Int) (sq : List (dm)) (hs : sq.length < 1048576) : ∀ (d k i : Nat) (acc : Int), i + d = sq.length → d < k → 0 ≤ acc → acc + d ≤ 2097152 →
  cG.l0 k x acc sq (sq.length : Int) (i : Int) = some (acc + (((sq.drop i).filter (fp x)).length : Int)) := by
 intro d
 induction d with
 | zero =>
  intro k i acc hi hk h0 h1
  obtain ⟨k, rfl⟩ : ∃ k', k = k' + 1 := ⟨k - 1, by omega⟩
  rw [cG.l0, if_neg (by omega), List.drop_eq_nil_of_le (by omega)]
  simp
 | succ d ih =>
  intro k i acc hi hk h0 h1
  obtain ⟨k, rfl⟩ : ∃ k', k = k' + 1 := ⟨k - 1, by omega⟩
  rw [cG.l0, if_pos (by omega), if_pos (by omega), if_pos (by omega), tw sq i (by omega), k7.f]
  by_cases hq : fp x (de sq (i : Int)) = true
  ·rw [if_pos (show (Go.bits .andNot .u64 (de sq (i : Int)).f3 x == 0) = true from hq), Option.bind_some, IntWalk.wrap64_in _ (by omega), IntWalk.wrap64_in _ (by omega), show (i : Int) + 1 = ((i + 1 : Nat) : Int) from rfl, ih k (i + 1) _ (by omega) (by omega) (by omega) (by omega), List.filter_cons_of_pos hq, List.length_cons]
   congr 1; push_cast; omega
  ·rw [if_neg (show ¬ (Go.bits .andNot .u64 (de sq (i : Int)).f3 x == 0) = true from hq), Option.bind_some, IntWalk.wrap64_in _ (by omega), IntWalk.wrap64_in _ (by omega), show (i : Int) + 1 = ((i + 1 : Nat) : Int) from rfl, ih k (i + 1) _ (by omega) (by omega) (by omega) (by omega), List.filter_cons_of_neg hq]
   congr 1; omega
theorem pP (k : Nat) (x : Int) (sq : List (dm)) (hs : sq.length < 1048576) (hk : sq.length < k) : cG.f k sq x = some ((sq.filter (fp x)).length : Int) := by
 have h := ve x sq hs sq.length k 0 0 (by omega) hk (by omega) (by omega)
 rw [List.drop_zero, Int.zero_add] at h
 exact h
def qT (x : Int) (l : List (dm)) : Int := l.foldl (fun a q => Go.bits .andNot .u64 a q.f3) x
theorem tC (l : List (dm)) (hs : l.length < 1048576) : ∀ (d k i : Nat) (acc : Int), i + d = l.length → d < k → cu.l0 k acc l (l.length : Int) (i : Int) = some (qT acc (l.drop i)) := by
 intro d
 induction d with
 | zero =>
  intro k i acc hi hk
  obtain ⟨k, rfl⟩ : ∃ k', k = k' + 1 := ⟨k - 1, by omega⟩
  rw [cu.l0, if_neg (by omega), List.drop_eq_nil_of_le (by omega)]
  rfl
 | succ d ih =>
  intro k i acc hi hk
  obtain ⟨k, rfl⟩ : ∃ k', k = k' + 1 := ⟨k - 1, by omega⟩
  rw [cu.l0, if_pos (by omega), if_pos (by omega), if_pos (by omega), tw l i (by omega), IntWalk.wrap64_in _ (by omega), show (i : Int) + 1 = ((i + 1 : Nat) : Int) from rfl, ih k (i + 1) _ (by omega) (by omega)]
  rfl
theorem oh (k : Nat) (x : Int) (sq : List (dm)) (hs : sq.length < 1048576) (hk : sq.length < k) : cu.f k sq x = some (qT x (sq.filter (fp x))) := by
 have hl := List.length_filter_le (fp x) sq
 rw [cu.f, kB.f, if_pos hs, Option.bind_some]
 have h := tC (sq.filter (fp x)) (by omega) _ k 0 x (Nat.zero_add _) (by omega)
 rw [List.drop_zero] at h
 exact h
def pH (sq : List (dm)) (squares : Int) (tidy : Bool) (x : Int) : Bool := decide (((sq.filter (fp x)).length : Int) = squares) && (!tidy || decide (qT x (sq.filter (fp x)) = 0))
theorem yX (k : Nat) (sq : List (dm)) (squares : Int) (tidy : Bool) (x : Int) (hs : sq.length < 1048576) (hk : sq.length < k) : jw k sq squares tidy x = pH sq squares tidy x := by
 rw [jw, pH, pP k x sq hs hk, oh k x sq hs hk]
 simp
def nK (l : List Int) : Bool := decide (l.length ≤ 64) && l.all (fun b => decide (0 ≤ b) && decide (b ≤ 63))
theorem q9 {l : List Int} (h : nK l = true) : l.length ≤ 64 ∧ ∀ i : Nat, i < l.length → 0 ≤ rd l i ∧ rd l i ≤ 63 := by
 simp only [nK, Bool.and_eq_true, decide_eq_true_eq, List.all_eq_true] at h
 refine ⟨h.1, fun i hi => ?_⟩
 rw [rd, Int.toNat_natCast, List.getD_eq_getElem?_getD, List.getElem?_eq_getElem hi, Option.getD_some]
 exact h.2 _ (List.getElem_mem hi)
def fX.f (k : Nat) (a0_0 a0_1 : Int) (l0_2 l0_3 : List Int) (a0_4 : Int) (a0_5 : Bool) (a1 : Int) (a2 : Bool) : Option (List Int) :=
 (aE.f k a0_0 a0_1).bind fun sq => (aI.f k a0_0 a0_1 l0_2 l0_3).bind fun s => (cj.f a0_0 a0_1).bind fun all => (ba.f k s).bind fun haves => (ba.f k (Go.bits .andNot .u64 all s)).bind fun frees =>
  if sq.length < k ∧ sq.length < 1048576 ∧ nK haves = true ∧ nK frees = true ∧ 0 ≤ a0_4 ∧ a0_4 ≤ 1000 ∧ (lH haves frees a0_4.toNat a0_5 s).length ≤ 17592186044416 then some ((lH haves frees a0_4.toNat a0_5 s).filter (pH sq a1 a2)) else none
theorem nc (p : Int → Bool) (l : List Int) : l.flatMap (fun x => if p x then [x] else []) = l.filter p := by
 induction l with
 | nil => rfl
 | cons a t ih =>
  rw [List.flatMap_cons, ih]
  by_cases h : p a = true
  ·simp [h]
  ·simp [h]
theorem Co {w : World} {a : Addr} {v : Value} (h : w.cell? a = some v) : a.block < w.heap.size := by
 unfold World.cell? at h
 by_cases hl : a.block < w.heap.size
 ·exact hl
 ·rw [Array.getElem?_eq_none (by omega)] at h
  cases h
set_option maxHeartbeats 8000000 in
set_option maxRecDepth 100000 in
theorem fX.calls (k : Nat) (a0_0 a0_1 : Int) (A0_2 : Option Addr) (c0_2 : Nat) (l0_2 : List Int) (A0_3 : Option Addr) (c0_3 : Nat) (l0_3 : List Int) (a0_4 : Int) (a0_5 : Bool) (a1 : Int) (a2 : Bool) (r : List Int) (w : World) (hT : ej w) (ca : Kd.C (Kd.int .i64) w A0_2 l0_2.length l0_2) (bX : l0_2.length ≤ c0_2) (b0 : Kd.C (Kd.int .i64) w A0_3 l0_3.length l0_3) (bW : l0_3.length ≤ c0_3) (h : fX.f k a0_0 a0_1 l0_2 l0_3 a0_4 a0_5 a1 a2 = some r) :
  Calls Tryz.prog 74 #[.agg #[.int .i64 a0_0, .int .i64 a0_1, .slice A0_2 l0_2.length c0_2, .slice A0_3 l0_3.length c0_3, .int .i64 a0_4, .bool a0_5], .int .i64 a1, .bool a2] w fun e w' => ∃ v0_ : Value, e = .returned (v0_) ∧ Kd.R (Kd.int .u64) 57 w' w.heap.size (fun _ => True) v0_ r ∧ Below w.heap.size w w' := by
 obtain ⟨sq, hsq, h⟩ := Option.bind_eq_some_iff.mp h
 obtain ⟨s, hs, h⟩ := Option.bind_eq_some_iff.mp h
 obtain ⟨all, hall, h⟩ := Option.bind_eq_some_iff.mp h
 obtain ⟨haves, hhv, h⟩ := Option.bind_eq_some_iff.mp h
 obtain ⟨frees, hfr, h⟩ := Option.bind_eq_some_iff.mp h
 split at h
 case isFalse => cases h
 rename_i hcond
 obtain ⟨hk, hsl', hbv, hbf, hm0, hm1, hlen⟩ := hcond
 have h := Option.some.inj h
 obtain ⟨m, rfl⟩ := Int.eq_ofNat_of_zero_le hm0
 rw [Int.toNat_natCast] at h hlen
 obtain ⟨hv64, hbv⟩ := q9 hbv
 obtain ⟨hf64, hbf⟩ := q9 hbf
 have HSQ := aa.mk hsq
 have HS := aa.mk hs
 have HALL := aa.mk hall
 have HHV := aa.mk hhv
 have HFR := aa.mk hfr
 have HBV := aa.mk hbv
 have HBF := aa.mk hbf
 have HLEN := aa.mk hlen
 have K2 := aa.mk ca
 have K3 := aa.mk b0
 have HT := aa.mk hT
 have HR := aa.mk h
 clear hsq hs hall hhv hfr hbv hbf hlen ca b0 hT h
 go_enter Tryz.func74, Tryz.ntmps74
 go_wp2_with fail
 obtain ⟨W1, hW1⟩ : ∃ W1, ((w.alloc (.cells #[.int .i64 a0_0, .int .i64 a0_1, .slice A0_2 l0_2.length c0_2, .slice A0_3 l0_3.length c0_3, .int .i64 (m : Int), .bool a0_5] 90)).alloc (.cells #[.int .i64 a1] 3)).alloc (.cells #[.bool a2] 4) = W1 := ⟨_, rfl⟩
 have hb1 : Below w.heap.size w W1 := by rw [← hW1]; exact ag (ag (ag (Below.refl _ _) _) _) _
 have hsz1 : W1.heap.size = w.heap.size + 3 := by rw [← hW1]; simp
 have hbw : W1.heap[w.heap.size]? = some (.cells #[.int .i64 a0_0, .int .i64 a0_1, .slice A0_2 l0_2.length c0_2, .slice A0_3 l0_3.length c0_3, .int .i64 (m : Int), .bool a0_5] 90 (0, 0)) := by
  rw [← hW1, Below.heap_alloc _ _ _ (by simp; omega), Below.heap_alloc _ _ _ (by simp)]
  exact heap_alloc_new _ _
 have hbq : W1.heap[w.heap.size + 1]? = some (.cells #[.int .i64 a1] 3 (0, 0)) := by
  rw [← hW1, Below.heap_alloc _ _ _ (by simp)]
  have h := heap_alloc_new (w.alloc (.cells #[.int .i64 a0_0, .int .i64 a0_1, .slice A0_2 l0_2.length c0_2, .slice A0_3 l0_3.length c0_3, .int .i64 (m : Int), .bool a0_5] 90)) (.cells #[.int .i64 a1] 3)
  rwa [World.size_alloc] at h
 have hbt : W1.heap[w.heap.size + 1 + 1]? = some (.cells #[.bool a2] 4 (0, 0)) := by
  have h := heap_alloc_new ((w.alloc (.cells #[.int .i64 a0_0, .int .i64 a0_1, .slice A0_2 l0_2.length c0_2, .slice A0_3 l0_3.length c0_3, .int .i64 (m : Int), .bool a0_5] 90)).alloc (.cells #[.int .i64 a1] 3)) (.cells #[.bool a2] 4)
  rw [World.size_alloc, World.size_alloc] at h
  rw [← hW1]; exact h
 rw [hW1]
 clear hW1
 refine (bN.calls a0_0 a0_1 A0_2 c0_2 l0_2 A0_3 c0_3 l0_3 a0_0 a0_1 W1 (Kd.ax K2.out hb1) bX (Kd.ax K3.out hb1) bW rfl).mono ?_
 rintro e w2 ⟨rfl, hb2⟩
 have HBW := aa.mk hbw
 have HBQ := aa.mk hbq
 have HBT := aa.mk hbt
 have HB1 := aa.mk hb1
 have HB2 := aa.mk hb2
 clear hbw hbq hbt hb1 hb2
 go_wp2_with fail
 refine (aE.calls k a0_0 a0_1 sq w2 HSQ.out).mono ?_
 rintro e w3 ⟨v, rfl, ho, hb3⟩
 obtain ⟨AL, cL, rfl⟩ := Kd.bE ho
 have HO := aa.mk ho
 have HB3 := aa.mk hb3
 clear ho hb3
 have h12 := HB2.out.size
 have h23 := HB3.out.size
 have HBW3 := aa.mk ((HB3.out.block _ (by omega)).trans ((HB2.out.block _ (by omega)).trans HBW.out))
 go_wp2_with (first
  | ((with_reducible refine aV (N := 13) rfl ?_); refine Kd.qa (Kd.int .u64) _ 57 ?hg (N := 13) ?hd (xs := ([] : List Int)) (inner := []) (ok := fun _ => True) (okp := fun _ => True) ?hr ?hp (fun _ hk => hk) trivial (Below.refl _ _) (Nat.le_refl _) (by simp) ?_; (case hd => rfl); (case hg => rfl); (case hr => first | (go_simp; done) | (go_simp; rfl)); (case hp => exact (gu.none _ _)); intro v13 w4 ho4 hb4 hg_ hnew_; clear hg_ hnew_; obtain ⟨A13, c13, hv13⟩ := Kd.bE ho4; subst hv13; have HO4 := aa.mk ho4; have HB4 := aa.mk hb4; clear ho4 hb4)
  | ((with_reducible refine aV (N := 7) rfl ?_); refine aM ?hg (N := 7) ?hd (cs := #[.slice none 0 0]) (t := 122) ?hr ?_; (case hd => rfl); (case hg => rfl); (case hr => first | (go_simp; done) | (go_simp; rfl)); intro gl hgl w5 hbl hb5; have HGL := aa.mk hgl; have HBL := aa.mk hbl; have HB5 := aa.mk hb5; clear hgl hbl hb5)
  | ((with_reducible refine aV (N := 8) rfl ?_); refine aM ?hg (N := 8) ?hd (cs := #[.slice none 0 0]) (t := 88) ?hr ?_; (case hd => rfl); (case hg => rfl); (case hr => first | (go_simp; done) | (go_simp; rfl)); intro g hg6 w6 hbo hb6; have HG6 := aa.mk hg6; have HBO := aa.mk hbo; have HB6 := aa.mk hb6; clear hg6 hbo hb6; have h34 := HB4.out.size; have h45 := HB5.out.size; have h56 := HB6.out.size; have hn1 : gl ≠ w.heap.size := (by have := HGL.out; omega); have hn2 : w.heap.size ≠ gl := (by have := HGL.out; omega); have hn3 : g ≠ w.heap.size := (by have := HG6.out; omega); have hn4 : w.heap.size ≠ g := (by have := HG6.out; omega); have hn5 : g ≠ gl := (by have := HG6.out; have := a7 HBL.out; omega); have hn6 : gl ≠ g := hn5.symm; have zT := aa.mk ((HB6.out.block _ (a7 HBL.out)).trans HBL.out); have hcl6 : w6.cell? ⟨gl, 0, none⟩ = some (.slice none 0 0) := (ai zT.out 0).trans rfl; have hfl6 : w6.frozen? ⟨gl, 0, none⟩ = false := aj zT.out 0; have hcg6 : w6.cell? ⟨g, 0, none⟩ = some (.slice none 0 0) := (ai HBO.out 0).trans rfl; have hfg6 : w6.frozen? ⟨g, 0, none⟩ = false := aj HBO.out 0; have yr := aa.mk ((HB6.out.block _ (by omega)).trans ((HB5.out.block _ (by omega)).trans ((HB4.out.block _ (by omega)).trans HBW3.out))); have DL : w6.cell? ⟨w.heap.size, 0, none⟩ = some (.int .i64 a0_0) := (ai yr.out 0).trans rfl; have DK : w6.cell? ⟨w.heap.size, 1, none⟩ = some (.int .i64 a0_1) := (ai yr.out 1).trans rfl; have DJ : w6.cell? ⟨w.heap.size, 2, none⟩ = some (.slice A0_2 l0_2.length c0_2) := (ai yr.out 2).trans rfl; have DI : w6.cell? ⟨w.heap.size, 3, none⟩ = some (.slice A0_3 l0_3.length c0_3) := (ai yr.out 3).trans rfl; have DH : w6.cell? ⟨w.heap.size, 4, none⟩ = some (.int .i64 (m : Int)) := (ai yr.out 4).trans rfl; have EE : w6.cell? ⟨w.heap.size, 5, none⟩ = some (.bool a0_5) := (ai yr.out 5).trans rfl))
 obtain ⟨W7, hW7⟩ : ∃ W7, (w6.setCell ⟨gl, 0, none⟩ (.slice AL sq.length cL)).setCell ⟨g, 0, none⟩ (.slice A13 0 c13) = W7 := ⟨_, rfl⟩
 have hs7 : W7.heap.size = w6.heap.size := by rw [← hW7]; simp [World.setCell]
 have hgl := HGL.out
 have hg6 := HG6.out
 have hls := a7 HBO.out
 have hb36 : Below w3.heap.size w3 w6 := HB4.out.trans ((HB5.out.mono h34).trans (HB6.out.mono (by omega)))
 have hb46 : Below w4.heap.size w4 w6 := HB5.out.trans (HB6.out.mono h45)
 have hbw3 : Below w.heap.size w w3 := HB1.out.trans ((HB2.out.mono (by omega)).trans (HB3.out.mono (by omega)))
 have hbw6 : Below w.heap.size w w6 := hbw3.trans (hb36.mono (by omega))
 have hbw7 : Below w.heap.size w W7 := by rw [← hW7]; exact (hbw6.setCell (by show _ ≤ gl; omega) _).setCell (by show _ ≤ g; omega) _
 have DN : W7.heap[g]? = some (.cells #[.slice A13 0 c13] 88 (0, 0)) := by
  rw [← hW7]; exact bF ((Below.heap_setCell w6 ⟨gl, 0, none⟩ _ g hn5).trans HBO.out) 0 _ rfl
 have hrow : rowAt W7 g = (Value.slice A13 0 c13).ownBlock := by rw [rowAt, (ai DN 0).trans rfl]; rfl
 have uN : ∀ k, k ≠ g → k ≠ gl → W7.heap[k]? = w6.heap[k]? := fun k h1 h2 => by
  rw [← hW7, Below.heap_setCell _ _ _ _ h1, Below.heap_setCell _ _ _ _ h2]
 have hsafe : ∀ k, k < w3.heap.size → Safe g W7 k := fun k hk => ⟨by omega, by omega, fun e => by
  rw [hrow] at e
  have := Kd.kO HO4.out k e.symm
  omega⟩
 have hbg7 : W7.heap[gl]? = some (.cells #[.slice AL sq.length cL] 122 (0, 0)) := by
  rw [← hW7, Below.heap_setCell _ _ _ _ hn6]; exact bF zT.out 0 _ rfl
 have hsl : Safe g W7 gl := ⟨by omega, hn6, fun e => by
  rw [hrow] at e
  have := Kd.ko HO4.out gl e.symm
  omega⟩
 have hR7 : Kd.R (Kd.int .u64) 57 W7 w.heap.size (fun _ => True) (.slice A13 0 c13) [] := by
  rw [← hW7]
  have h1 := Kd.kn (jt (Kd.cW HO4.out (show w.heap.size ≤ w3.heap.size by omega)) hb46) zT.out (by decide) 0 (.slice AL sq.length cL)
  exact Kd.kn h1 ((Below.heap_setCell w6 ⟨gl, 0, none⟩ _ g hn5).trans HBO.out) (by decide) 0 _
 have hK7 : Kd.C gf W7 AL sq.length sq := by
  have h0 := Kd.cx HO.out hb36
  have h1 := Kd.kn h0 zT.out (by decide) 0 (.slice AL sq.length cL)
  have h2 := Kd.kn h1 ((Below.heap_setCell w6 ⟨gl, 0, none⟩ _ g hn5).trans HBO.out) (by decide) 0 (.slice A13 0 c13)
  rw [← hW7]
  exact (Kd.bZ h2).2.2
 rw [hW7]
 have hOUT : qH g gl (w.heap.size + 1) (w.heap.size + 1 + 1) AL cL sq a1 a2 w.heap.size w [] W7 := by
  refine ⟨hsl, hsafe _ (by omega), hsafe _ (by omega), hbg7, ?_, ?_, hK7, fun ad e hn => hsafe _ (Kd.ko HO.out ad.block (by rw [e]; simp [Value.ownBlock])), (Kd.bZ HO.out).2.1, by omega, hbw7, _, DN, hR7⟩
  ·exact (uN _ (by omega) (by omega)).trans ((hb36.block _ (by omega)).trans ((HB3.out.block _ (by omega)).trans ((HB2.out.block _ (by omega)).trans HBQ.out)))
  ·exact (uN _ (by omega) (by omega)).trans ((hb36.block _ (by omega)).trans ((HB3.out.block _ (by omega)).trans ((HB2.out.block _ (by omega)).trans HBT.out)))
 have hsafe2 : ∀ {A : Option Addr} {l : List Int}, Kd.C (Kd.int .i64) w A l.length l → ∀ ad, A = some ad → 0 < l.length → Safe g W7 ad.block := fun hc ad e hn => by
  obtain ⟨ad2, e2, hcell⟩ := Kd.dv hc 0 (by omega) (by omega)
  rw [e] at e2
  obtain rfl := Option.some.inj e2
  have h1 : ad.block < w.heap.size := Co hcell
  exact hsafe _ (by omega)
 have hkk : ∀ x, jw k sq a1 a2 x = pH sq a1 a2 x := fun x => yX k sq a1 a2 x hsl' hk
 refine (va (xz g gl (w.heap.size + 1) (w.heap.size + 1 + 1) AL cL sq a1 a2 w.heap.size w k (fun x => ⟨_, pP k x sq hsl' hk⟩) (fun x => ⟨_, oh k x sq hsl' hk⟩)) a0_0 a0_1 A0_2 c0_2 l0_2 A0_3 c0_3 l0_3 m a0_5 s all k haves frees [] W7 HS.out HALL.out HHV.out HFR.out HBV.out hv64 HBF.out hf64 (by omega) hOUT (Kd.ax K2.out hbw7) (Kd.ax K3.out hbw7) (hsafe2 K2.out) (hsafe2 K3.out) bX bW (HT.out.below hbw7) (hsafe _ (Nat.lt_of_lt_of_le HT.out.lt64 (by omega))) ?_).mono ?_
 ·rw [nc, List.nil_append]
  exact Nat.le_trans (List.length_filter_le _ _) HLEN.out
 rintro e w8 ⟨rfl, h8, _⟩
 rw [nc, List.nil_append, show jw k sq a1 a2 = pH sq a1 a2 from funext hkk, HR.out] at h8
 obtain ⟨v8, hc8, hr8⟩ := h8.out
 have hb8 := h8.hb
 have hcell8 : w8.cell? ⟨g, 0, none⟩ = some v8 := (ai hc8 0).trans rfl
 obtain ⟨A8, c8, hv8⟩ := Kd.bE hr8
 subst hv8
 have HR8 := aa.mk hr8
 have HB8 := aa.mk hb8
 clear hc8 hr8 hb8 h8 hkk hsafe2 hOUT hsl hR7 hK7 hbg7 uN hsafe hrow DN hbw7 hbw6 hbw3 hb36 hb46
 clear hgl hg6
 go_wp2
 go_ret
 exact ⟨_, rfl, HR8.out, HB8.out⟩
end Go.Proofs.YtmjlmloomkodpaaGreatDoor.PA
namespace Go.Proofs.YtmjlmloomkodpaaGreatDoor.PA
open Go.RowKit Go.Proofs.ae.aw Go.Proofs.ae.aJ Go.Proofs.ae.aN
attribute [local go_sem] bo bm bC bB a6 aZ bn bj
set_option linter.unusedVariables false
set_option linter.unusedSimpArgs false
structure vn (gE : Nat) (lb : Array Value) (e : Int → Int) (n : Nat) (W : World) : Prop where
 eg : ∀ args w, (callFunc gE args).run Tryz.prog w = .ok (.enter gE args) w
 call : ∀ (x : Nat) W', x < n → Below W.heap.size W W' → Calls Tryz.prog gE (#[.int .i64 (x : Int)] ++ lb) W' fun q w' => q = .returned (.int .u64 (e x)) ∧ Below W'.heap.size W' w'
def gW (sg s : Int) (e : Int → Int) (n : Nat) : List Int := (List.range n).map fun (x : Nat) => if Go.bits .and .u64 s (e (x : Int)) == 0 then (46 : Int) else sg
theorem y9 : (Tryz.prog.info? 5).map (fun i => (i.zero, i.size, i.bytes)) = some (some (.int .u8 0), 1, 1) := by kernel_rfl
theorem AW : (Tryz.prog.info? 9).map (fun i => (i.zero, i.size, i.bytes)) = some (some (.string ⟨#[]⟩), 1, 16) := by kernel_rfl
theorem uC (sg s : Int) (e : Int → Int) (n : Nat) : gW sg s e (n + 1) = gW sg s e n ++ [if Go.bits .and .u64 s (e (n : Int)) == 0 then 46 else sg] := by
 rw [gW, List.range_succ, List.map_append]; rfl
theorem jl (sg s : Int) (e : Int → Int) (n : Nat) : (gW sg s e n).length = n := by simp [gW]
set_option maxHeartbeats 8000000 in
set_option maxRecDepth 100000 in
theorem nh (gE : Nat) (lb : Array Value) (e : Int → Int) (n : Nat) (sg s : Int) (bS bR : Nat) (v : Value) (rows : List ByteArray) (base : Nat) (w0 W : World)
  (hE : vn gE lb e n W) (hn : n ≤ 100) (hS : W.heap[bS]? = some (.cells #[.int .u64 s] 57 (0, 0))) (hR : W.heap[bR]? = some (.cells #[v] 68 (0, 0)))
  (hv : Kd.R Kd.string 9 W base (fun _ => True) v rows) (hB : Below base w0 W) (hb : base ≤ W.heap.size) (hg : base ≤ bR) (hsr : bS ≠ bR) (hlen : rows.length < 1000) :
  Calls Tryz.prog 81 #[.int .i64 (n : Int), .int .u8 sg, .func (.func gE) #[] lb, .pointer (some ⟨bS, 0, none⟩), .pointer (some ⟨bR, 0, none⟩)] W fun q w' => q = .returned (.tuple #[]) ∧ ∃ v' : Value, w'.heap[bR]? = some (.cells #[v'] 68 (0, 0)) ∧ Kd.R Kd.string 9 w' base (fun _ => True) v' (rows ++ [strOfNums (gW sg s e n)]) ∧ Below base w0 w' ∧ cX W w' bR v.ownBlock ∧ (v'.ownBlock = v.ownBlock ∨ ∃ b, v'.ownBlock = some b ∧ W.heap.size ≤ b) := by
 have HE := aa.mk hE
 have eg := hE.eg
 have HS := aa.mk hS
 have HR := aa.mk hR
 have HV := aa.mk hv
 have HB0 := aa.mk hB
 clear hE hS hR hv hB
 go_enter Tryz.func81, Tryz.ntmps81
 go_wp2_with (first | ((with_reducible refine aV (N := 10) rfl ?_); refine Kd.qa (Kd.int .u8) _ 5 ?hg (N := 10) ?hd (xs := ([] : List Int)) (inner := []) (ok := fun _ => True) (okp := fun _ => True) ?hr ?hp (fun _ hk => hk) trivial (Below.refl _ _) (Nat.le_refl _) (by simp) ?_; (case hd => rfl); (case hg => rfl); (case hr => first | (go_simp; done) | (go_simp; rfl)); (case hp => exact (gu.none _ _)); intro v6 w1 ho1 hb1 hg_ hnew_; clear hg_ hnew_; have HO1 := aa.mk ho1; have HB1 := aa.mk hb1; clear ho1 hb1))
 go_loopg [8, 9, 12] (n + 1) (fun gg s8 _ s12 wr => ∃ (kk : Nat), kk ≤ n ∧ n - kk < gg ∧ s12 = .int .i64 (kk : Int) ∧ aa (Kd.R (Kd.int .u8) 5 wr W.heap.size (fun _ => True) s8 (gW sg s e kk)) ∧ aa (Below W.heap.size W wr))
 case atStart => exact ⟨0, Nat.zero_le _, by omega, rfl, HO1, HB1⟩
 case round =>
  clear HO1 HB1
  obtain ⟨kk, hkk, hgk, rfl, HO, HBW⟩ := hrel
  obtain ⟨A1, c1, rfl⟩ := Kd.bE HO.out
  have hcs : wr.cell? ⟨bS, 0, none⟩ = some (.int .u64 s) := (ai ((HBW.out.block _ (a7 HS.out)).trans HS.out) 0).trans rfl
  have qs : ∀ p : aY wr, _ := fun p => aY.cell hcs p
  have hsz := HBW.out.size
  by_cases hlt : kk < n
  ·have hltz : (kk : Int) < (n : Int) := by omega
   have HCALL := aa.mk (fun W' h => HE.out.call kk W' hlt h)
   obtain ⟨ex, hex⟩ : ∃ ex, e (kk : Int) = ex := ⟨_, rfl⟩
   obtain ⟨ab, hab⟩ : ∃ ab, Go.bits .and .u64 s ex = ab := ⟨_, rfl⟩
   have hrow := uC sg s e kk
   rw [hex, hab] at hrow
   rw [hex] at HCALL
   clear hex
   go_wp2_with fail
   refine dz (by kernel_rfl) (by kernel_rfl) ?_
   repeat (go_big_quiet_step (first
    | (go_at_fn gE; exact aY.ret (HCALL.out _ (HBW.out.trans ((aY.h _).mono hsz))))))
   refine wpQuiet_nil ?_
   rintro w' ⟨p, rfl⟩
   have HBP := aa.mk (HBW.out.trans (p.h.mono hsz))
   have HOP := aa.mk (jt HO.out p.h)
   clear hcs qs HO HBW HCALL
   by_cases hz : ab = 0
   ·have hz1 : (ab != 0) = false := by simp [hz]
    rw [show (if (ab == 0) = true then (46 : Int) else sg) = 46 by simp [hz]] at hrow
    go_wp2_with (first | ((with_reducible refine cH (b := .append) (xs := #[.tmp 25, .tmp 26]) rfl ?_); at_builtin; refine Kd.eb (Kd.int .u8) (w0 := W) W.heap.size rfl (.tmp 25) (.tmp 26) 97 5 (.int .u8 0) 1 rfl Tryz.underlying97 y9 rfl (by decide) (by omega) (.slice A1 (gW sg s e kk).length c1) (gW sg s e kk) (46) [.int .u8 (46)] (fun _ => True) (fun _ => False) rfl rfl ?aP (fun _ hk => hk.elim) ?aF ?aO ?aB ?aS ?aL ?_; (case aP => exact rfl); (case aB => exact HBP.out); (case aF => exact (fun _ _ => trivial)); (case aO => exact HOP.out); (case aS => exact HBP.out.size); (case aL => rw [jl]; omega); intro v2 w2 ho hb2 hgr hat; obtain ⟨A2, c2, hv2⟩ := Kd.bE ho; rw [List.length_append, List.length_singleton] at hv2; subst hv2; have HO2 := aa.mk ho; have HB2 := aa.mk hb2; clear ho hb2 hgr hat))
    go_roundg (n - kk)
    case measure => omega
    case rel => exact ⟨kk + 1, by omega, by omega, by go_num, ⟨by rw [hrow]; exact HO2.out⟩, ⟨HB2.out⟩⟩
   ·have hz1 : (ab != 0) = true := by simp [hz]
    rw [show (if (ab == 0) = true then (46 : Int) else sg) = sg by simp [hz]] at hrow
    go_wp2_with (first | ((with_reducible refine cH (b := .append) (xs := #[.tmp 21, .tmp 23]) rfl ?_); at_builtin; refine Kd.eb (Kd.int .u8) (w0 := W) W.heap.size rfl (.tmp 21) (.tmp 23) 97 5 (.int .u8 0) 1 rfl Tryz.underlying97 y9 rfl (by decide) (by omega) (.slice A1 (gW sg s e kk).length c1) (gW sg s e kk) (sg) [.int .u8 (sg)] (fun _ => True) (fun _ => False) rfl rfl ?aP (fun _ hk => hk.elim) ?aF ?aO ?aB ?aS ?aL ?_; (case aP => exact rfl); (case aB => exact HBP.out); (case aF => exact (fun _ _ => trivial)); (case aO => exact HOP.out); (case aS => exact HBP.out.size); (case aL => rw [jl]; omega); intro v2 w2 ho hb2 hgr hat; obtain ⟨A2, c2, hv2⟩ := Kd.bE ho; rw [List.length_append, List.length_singleton] at hv2; subst hv2; have HO2 := aa.mk ho; have HB2 := aa.mk hb2; clear ho hb2 hgr hat))
    go_roundg (n - kk)
    case measure => omega
    case rel => exact ⟨kk + 1, by omega, by omega, by go_num, ⟨by rw [hrow]; exact HO2.out⟩, ⟨HB2.out⟩⟩
  ·have hltz : ¬ (kk : Int) < (n : Int) := by omega
   obtain rfl : kk = n := by omega
   clear qs hcs
   obtain ⟨AR, cR, hvr⟩ := Kd.bE HV.out
   subst hvr
   have HRW := aa.mk ((HBW.out.block _ (a7 HR.out)).trans HR.out)
   have hcr : wr.cell? ⟨bR, 0, none⟩ = some (.slice AR rows.length cR) := (ai HRW.out 0).trans rfl
   have hfr : wr.frozen? ⟨bR, 0, none⟩ = false := aj HRW.out 0
   have HNE := aa.mk (Kd.jF HV.out HR.out (by decide))
   have HB1 := aa.mk (HB0.out.trans (HBW.out.mono hb))
   have HVW := aa.mk (Kd.cx HV.out HBW.out)
   have hcv : ∀ W', Below wr.heap.size wr W' → (convert 97 9 (.slice A1 (gW sg s e kk).length c1)).run Tryz.prog W' = .ok (.string (strOfNums (gW sg s e kk))) W' := fun W' hb => Kd.Ad Tryz.underlying97 Tryz.underlying5 Tryz.underlying9 (Kd.ax (gM HO.out) hb)
   have hcv0 := hcv wr (Below.refl _ _)
   obtain ⟨tx, htx⟩ : ∃ tx, strOfNums (gW sg s e kk) = tx := ⟨_, rfl⟩
   rw [htx] at hcv0
   clear hcv
   have hbw : base ≤ wr.heap.size := by omega
   go_wp2_with (first | ((with_reducible refine cH (b := .append) (xs := #[.tmp 29, .tmp 32]) rfl ?_); at_builtin; refine Kd.eb Kd.string (w0 := w0) base rfl (.tmp 29) (.tmp 32) 68 9 (.string ⟨#[]⟩) 16 rfl Tryz.underlying68 AW rfl (by decide) (by omega) (.slice AR rows.length cR) rows tx [.string tx] (fun _ => True) (fun _ => False) rfl rfl ?aP (fun _ hk => hk.elim) ?aF ?aO ?aB ?aS ?aL ?_; (case aP => exact rfl); (case aB => exact HB1.out); (case aF => exact (fun _ _ => trivial)); (case aO => exact HVW.out); (case aS => exact hbw); (case aL => omega); intro v2 w2 ho hb2 hgr hat; obtain ⟨A2, c2, hv2⟩ := Kd.bE ho; rw [List.length_append, List.length_singleton] at hv2; subst hv2; have HO2 := aa.mk ho; have HB2 := aa.mk hb2; have HAT := aa.mk hat; have HK2 := aa.mk (cX.ka hgr bR); have HR2 := aa.mk (eM HRW.out hgr HNE.out); have hcr2 : w2.cell? ⟨bR, 0, none⟩ = some (.slice AR rows.length cR) := (ai HR2.out 0).trans rfl; have hfr2 : w2.frozen? ⟨bR, 0, none⟩ = false := aj HR2.out 0; clear ho hb2 hat hgr hcr hfr))
   go_end0
   subst htx
   refine ⟨rfl, _, bF HR2.out 0 _ rfl, Kd.kn HO2.out HR2.out (by decide) 0 _, HB2.out.setCell hg _, (cX.en HBW.out bR _).trans (HK2.out.Ar 0 _) (.inl rfl), ?_⟩
   rcases HAT.out with h | ⟨b, h, h2⟩
   ·exact .inl h
   ·exact .inr ⟨b, h, by omega⟩
set_option maxHeartbeats 8000000 in
set_option maxRecDepth 100000 in
theorem u9 (bG bY : Nat) (w h y : Int) (e : Int → Int) (n : Nat) (W : World) (he : ∀ x : Nat, x < n → dA.f w h (x : Int) y = some (e x)) (hG : W.heap[bG]? = some (.cells #[.int .i64 w, .int .i64 h] 61 (0, 0))) (hY : W.heap[bY]? = some (.cells #[.int .i64 y] 3 (0, 0))) :
  vn 82 #[.pointer (some ⟨bG, 0, none⟩), .pointer (some ⟨bY, 0, none⟩)] e n W := by
 refine ⟨fun _ _ => rfl, fun x W' hx hb => ?_⟩
 have hg0 : W'.cell? ⟨bG, 0, none⟩ = some (.int .i64 w) := (ai ((hb.block _ (a7 hG)).trans hG) 0).trans rfl
 have hg1 : W'.cell? ⟨bG, 1, none⟩ = some (.int .i64 h) := (ai ((hb.block _ (a7 hG)).trans hG) 1).trans rfl
 have hy0 : W'.cell? ⟨bY, 0, none⟩ = some (.int .i64 y) := (ai ((hb.block _ (a7 hY)).trans hY) 0).trans rfl
 have HC := aa.mk (fun W2 => dA.calls w h (x : Int) y (e x) W2 (he x hx))
 clear he hG hY hb
 show Calls Tryz.prog 82 #[.int .i64 (x : Int), .pointer (some ⟨bG, 0, none⟩), .pointer (some ⟨bY, 0, none⟩)] W' _
 generalize e (x : Int) = ex at HC ⊢
 go_enter Tryz.func82, Tryz.ntmps82
 go_wp2_with (go_at_call 79; refine (HC.out _).mono ?_; rintro q w2 ⟨rfl, hb2⟩)
 go_ret
 exact ⟨rfl, hb2⟩
set_option maxHeartbeats 8000000 in
set_option maxRecDepth 100000 in
theorem sN (bG bY : Nat) (w h y : Int) (e : Int → Int) (n : Nat) (W : World) (he : ∀ x : Nat, x < n → bU.f w h (x : Int) y = some (e x)) (hG : W.heap[bG]? = some (.cells #[.int .i64 w, .int .i64 h] 61 (0, 0))) (hY : W.heap[bY]? = some (.cells #[.int .i64 y] 3 (0, 0))) :
  vn 83 #[.pointer (some ⟨bG, 0, none⟩), .pointer (some ⟨bY, 0, none⟩)] e n W := by
 refine ⟨fun _ _ => rfl, fun x W' hx hb => ?_⟩
 have hg0 : W'.cell? ⟨bG, 0, none⟩ = some (.int .i64 w) := (ai ((hb.block _ (a7 hG)).trans hG) 0).trans rfl
 have hg1 : W'.cell? ⟨bG, 1, none⟩ = some (.int .i64 h) := (ai ((hb.block _ (a7 hG)).trans hG) 1).trans rfl
 have hy0 : W'.cell? ⟨bY, 0, none⟩ = some (.int .i64 y) := (ai ((hb.block _ (a7 hY)).trans hY) 0).trans rfl
 have HC := aa.mk (fun W2 => bU.calls w h (x : Int) y (e x) W2 (he x hx))
 clear he hG hY hb
 show Calls Tryz.prog 83 #[.int .i64 (x : Int), .pointer (some ⟨bG, 0, none⟩), .pointer (some ⟨bY, 0, none⟩)] W' _
 generalize e (x : Int) = ex at HC ⊢
 go_enter Tryz.func83, Tryz.ntmps83
 go_wp2_with (go_at_call 78; refine (HC.out _).mono ?_; rintro q w2 ⟨rfl, hb2⟩)
 go_ret
 exact ⟨rfl, hb2⟩
def iZ (n0 t : Nat) (cs : Array Value) (v : Value) (w : World) : Prop := ∃ p, v = .pointer (some ⟨p, 0, none⟩) ∧ n0 ≤ p ∧ w.heap[p]? = some (.cells cs t (0, 0))
theorem iZ.below {n0 t : Nat} {cs : Array Value} {v : Value} {w w' : World} (h : iZ n0 t cs v w) (hb : Below w.heap.size w w') : iZ n0 t cs v w' := by
 obtain ⟨p, e, hn, hp⟩ := h
 exact ⟨p, e, hn, (hb.block _ (a7 hp)).trans hp⟩
theorem iZ.set {n0 t t' p' : Nat} {cs cs' : Array Value} {v : Value} {w : World} {i : Nat} {u : Value} (h : iZ n0 t cs v w) (hp' : w.heap[p']? = some (.cells cs' t' (0, 0))) (hne : t ≠ t') : iZ n0 t cs v (w.setCell ⟨p', i, none⟩ u) := by
 obtain ⟨p, e, hn, hp⟩ := h
 refine ⟨p, e, hn, (Below.heap_setCell _ _ _ _ ?_).trans hp⟩
 intro e2
 subst e2
 rw [hp] at hp'
 injection hp' with h1
 injection h1 with _ h2
 exact hne h2
theorem iZ.new (n0 t : Nat) (cs : Array Value) (w : World) (h : n0 ≤ w.heap.size) : iZ n0 t cs (.pointer (some ⟨w.heap.size, 0, none⟩)) (w.alloc (.cells cs t)) := ⟨_, rfl, h, heap_alloc_new _ _⟩
theorem D8 (w : World) (base : Nat) (h : base ≤ w.heap.size) : Kd.R Kd.string 9 (w.alloc (.cells #[] 9)) base (fun _ => True) (.slice (some ⟨w.heap.size, 0, none⟩) 0 0) [] := by
 refine ⟨fun _ _ => trivial, [], ?_, gu.none _ _⟩
 have h2 := World.ownsRow_lit (base := base) (e := 9) (size := 1) w #[] 0 h (by simp [maxLen]) (by simp)
 exact (show (w.alloc (.cells #[] 9)).ownsRow base 9 1 (.slice (some ⟨w.heap.size, 0, none⟩) 0 0) 0 [] by simpa using h2)
structure FJ (fig : Value) (gw gh s : Int) (B : World) (L : Nat → Bool) (vs : Nat → Value) (w : World) : Prop where
 b : Below B.heap.size B w
 v0 : L 0 = true → vs 0 = fig
 v1 : L 1 = true → vs 1 = .agg #[.int .i64 gw, .int .i64 gh]
 v2 : L 2 = true → vs 2 = fig
 v3 : L 3 = true → vs 3 = .int .u64 s
 v4 : L 4 = true → Kd.R Kd.string 9 w B.heap.size (fun _ => True) (vs 4) []
 v5 : L 5 = true → iZ B.heap.size 61 (if L 8 then #[.int .i64 gw, .int .i64 gh] else #[.int .i64 0, .int .i64 0]) (vs 5) w
 v6 : L 6 = true → iZ B.heap.size 57 (if L 9 then #[.int .u64 s] else #[.int .u64 0]) (vs 6) w
 v7 : L 7 = true → iZ B.heap.size 68 (if L 10 then #[vs 4] else #[.slice none 0 0]) (vs 7) w
 d10 : L 10 = true → L 4 = true
 d8 : L 8 = true → L 5 = true
 d9 : L 9 = true → L 6 = true
 d7 : L 10 = true → L 7 = true
theorem FJ.grow {fig : Value} {gw gh s : Int} {B : World} {L : Nat → Bool} {vs : Nat → Value} {w w' : World} (h : FJ fig gw gh s B L vs w) (hb : Below w.heap.size w w') : FJ fig gw gh s B L vs w' :=
 ⟨h.b.trans (hb.mono h.b.size), h.v0, h.v1, h.v2, h.v3, fun e => Kd.cx (h.v4 e) hb, fun e => (h.v5 e).below hb, fun e => (h.v6 e).below hb, fun e => (h.v7 e).below hb, h.d10, h.d8, h.d9, h.d7⟩
theorem dT {L : Nat → Bool} {i j : Nat} (h : j ≠ i) : jq L i j = L j := by simp [jq, h]
theorem ny (L : Nat → Bool) (i : Nat) : jq L i i = true := by simp [jq]
theorem eD {vs : Nat → Value} {i j : Nat} {v : Value} (h : j ≠ i) : l9 vs i v j = vs j := by simp [l9, h]
theorem gV (vs : Nat → Value) (i : Nat) (v : Value) : l9 vs i v i = v := by simp [l9]
theorem FJ.upd {fig : Value} {gw gh s : Int} {B : World} {L : Nat → Bool} {vs : Nat → Value} {w : World} {i : Nat} {v : Value} (h : FJ fig gw gh s B L vs w) (hi : L i = false) (h8 : i < 8)
  (f0 : i = 0 → v = fig) (f1 : i = 1 → v = .agg #[.int .i64 gw, .int .i64 gh]) (f2 : i = 2 → v = fig) (f3 : i = 3 → v = .int .u64 s) (f4 : i = 4 → Kd.R Kd.string 9 w B.heap.size (fun _ => True) v [])
  (f5 : i = 5 → iZ B.heap.size 61 #[.int .i64 0, .int .i64 0] v w) (f6 : i = 6 → iZ B.heap.size 57 #[.int .u64 0] v w) (f7 : i = 7 → iZ B.heap.size 68 #[.slice none 0 0] v w) : FJ fig gw gh s B (jq L i) (l9 vs i v) w := by
 have b8 : jq L i 8 = L 8 := dT (by omega)
 have b9 : jq L i 9 = L 9 := dT (by omega)
 have b10 : jq L i 10 = L 10 := dT (by omega)
 have mono : ∀ j, L j = true → jq L i j = true := fun j hj => by unfold jq; split <;> simp_all
 refine ⟨h.b, fun e => ?_, fun e => ?_, fun e => ?_, fun e => ?_, fun e => ?_, fun e => ?_, fun e => ?_, fun e => ?_, fun e => mono _ (h.d10 (b10 ▸ e)), fun e => mono _ (h.d8 (b8 ▸ e)), fun e => mono _ (h.d9 (b9 ▸ e)), fun e => mono _ (h.d7 (b10 ▸ e))⟩
 ·by_cases hj : i = 0
  ·subst hj; rw [gV]; exact f0 rfl
  ·rw [eD (Ne.symm hj)]; rw [dT (Ne.symm hj)] at e; exact h.v0 e
 ·by_cases hj : i = 1
  ·subst hj; rw [gV]; exact f1 rfl
  ·rw [eD (Ne.symm hj)]; rw [dT (Ne.symm hj)] at e; exact h.v1 e
 ·by_cases hj : i = 2
  ·subst hj; rw [gV]; exact f2 rfl
  ·rw [eD (Ne.symm hj)]; rw [dT (Ne.symm hj)] at e; exact h.v2 e
 ·by_cases hj : i = 3
  ·subst hj; rw [gV]; exact f3 rfl
  ·rw [eD (Ne.symm hj)]; rw [dT (Ne.symm hj)] at e; exact h.v3 e
 ·by_cases hj : i = 4
  ·subst hj; rw [gV]; exact f4 rfl
  ·rw [eD (Ne.symm hj)]; rw [dT (Ne.symm hj)] at e; exact h.v4 e
 ·rw [b8]
  by_cases hj : i = 5
  ·subst hj
   rw [gV, if_neg (fun e8 => by rw [h.d8 e8] at hi; cases hi)]
   exact f5 rfl
  ·rw [eD (Ne.symm hj)]; rw [dT (Ne.symm hj)] at e; exact h.v5 e
 ·rw [b9]
  by_cases hj : i = 6
  ·subst hj
   rw [gV, if_neg (fun e8 => by rw [h.d9 e8] at hi; cases hi)]
   exact f6 rfl
  ·rw [eD (Ne.symm hj)]; rw [dT (Ne.symm hj)] at e; exact h.v6 e
 ·rw [b10]
  by_cases hj : i = 7
  ·subst hj
   rw [gV, if_neg (fun e8 => by rw [h.d7 e8] at hi; cases hi)]
   exact f7 rfl
  ·rw [eD (Ne.symm hj)]; rw [dT (Ne.symm hj)] at e
   by_cases h4 : i = 4
   ·subst h4
    have := h.v7 e
    rw [if_neg (fun e8 => by rw [h.d10 e8] at hi; cases hi)] at this ⊢
    exact this
   ·rw [eD (Ne.symm h4)]; exact h.v7 e
theorem FJ.st8 {fig : Value} {gw gh s : Int} {B : World} {L : Nat → Bool} {vs : Nat → Value} {w : World} {p : Nat} {v : Value} (h : FJ fig gw gh s B L vs w) (hp : vs 5 = .pointer (some ⟨p, 0, none⟩)) (hn : B.heap.size ≤ p) (hb : w.heap[p]? = some (.cells #[.int .i64 0, .int .i64 0] 61 (0, 0))) (h5 : L 5 = true) :
  FJ fig gw gh s B (jq L 8) (l9 vs 8 v) ((w.setCell ⟨p, 0, none⟩ (.int .i64 gw)).setCell ⟨p, 1, none⟩ (.int .i64 gh)) := by
 have hb2 := bF hb 0 (.int .i64 gw) rfl
 have ne : ∀ j, j ≠ 8 → jq L 8 j = L j ∧ l9 vs 8 v j = vs j := fun j hj => ⟨dT hj, eD hj⟩
 refine ⟨(h.b.setCell hn _).setCell hn _, fun e => ?_, fun e => ?_, fun e => ?_, fun e => ?_, fun e => ?_, fun e => ?_, fun e => ?_, fun e => ?_, fun e => ?_, fun e => ?_, fun e => ?_, fun e => ?_⟩
 ·rw [(ne 0 (by omega)).1] at e; rw [(ne 0 (by omega)).2]; exact h.v0 e
 ·rw [(ne 1 (by omega)).1] at e; rw [(ne 1 (by omega)).2]; exact h.v1 e
 ·rw [(ne 2 (by omega)).1] at e; rw [(ne 2 (by omega)).2]; exact h.v2 e
 ·rw [(ne 3 (by omega)).1] at e; rw [(ne 3 (by omega)).2]; exact h.v3 e
 ·rw [(ne 4 (by omega)).1] at e; rw [(ne 4 (by omega)).2]; exact Kd.kn (Kd.kn (h.v4 e) hb (by decide) 0 _) hb2 (by decide) 1 _
 ·rw [ny, if_pos rfl, (ne 5 (by omega)).2]; exact ⟨p, hp, hn, bF hb2 1 _ rfl⟩
 ·rw [(ne 6 (by omega)).1] at e; rw [(ne 6 (by omega)).2, (ne 9 (by omega)).1]; exact ((h.v6 e).set hb (by decide)).set hb2 (by decide)
 ·rw [(ne 7 (by omega)).1] at e; rw [(ne 7 (by omega)).2, (ne 10 (by omega)).1, (ne 4 (by omega)).2]; exact ((h.v7 e).set hb (by decide)).set hb2 (by decide)
 ·rw [(ne 10 (by omega)).1] at e; rw [(ne 4 (by omega)).1]; exact h.d10 e
 ·rw [(ne 5 (by omega)).1]; exact h5
 ·rw [(ne 9 (by omega)).1] at e; rw [(ne 6 (by omega)).1]; exact h.d9 e
 ·rw [(ne 10 (by omega)).1] at e; rw [(ne 7 (by omega)).1]; exact h.d7 e
theorem FJ.st9 {fig : Value} {gw gh s : Int} {B : World} {L : Nat → Bool} {vs : Nat → Value} {w : World} {p : Nat} {v : Value} (h : FJ fig gw gh s B L vs w) (hp : vs 6 = .pointer (some ⟨p, 0, none⟩)) (hn : B.heap.size ≤ p) (hb : w.heap[p]? = some (.cells #[.int .u64 0] 57 (0, 0))) (h6 : L 6 = true) :
  FJ fig gw gh s B (jq L 9) (l9 vs 9 v) (w.setCell ⟨p, 0, none⟩ (.int .u64 s)) := by
 have ne : ∀ j, j ≠ 9 → jq L 9 j = L j ∧ l9 vs 9 v j = vs j := fun j hj => ⟨dT hj, eD hj⟩
 refine ⟨h.b.setCell hn _, fun e => ?_, fun e => ?_, fun e => ?_, fun e => ?_, fun e => ?_, fun e => ?_, fun e => ?_, fun e => ?_, fun e => ?_, fun e => ?_, fun e => ?_, fun e => ?_⟩
 ·rw [(ne 0 (by omega)).1] at e; rw [(ne 0 (by omega)).2]; exact h.v0 e
 ·rw [(ne 1 (by omega)).1] at e; rw [(ne 1 (by omega)).2]; exact h.v1 e
 ·rw [(ne 2 (by omega)).1] at e; rw [(ne 2 (by omega)).2]; exact h.v2 e
 ·rw [(ne 3 (by omega)).1] at e; rw [(ne 3 (by omega)).2]; exact h.v3 e
 ·rw [(ne 4 (by omega)).1] at e; rw [(ne 4 (by omega)).2]; exact Kd.kn (h.v4 e) hb (by decide) 0 _
 ·rw [(ne 5 (by omega)).1] at e; rw [(ne 5 (by omega)).2, (ne 8 (by omega)).1]; exact (h.v5 e).set hb (by decide)
 ·rw [ny, if_pos rfl, (ne 6 (by omega)).2]; exact ⟨p, hp, hn, bF hb 0 _ rfl⟩
 ·rw [(ne 7 (by omega)).1] at e; rw [(ne 7 (by omega)).2, (ne 10 (by omega)).1, (ne 4 (by omega)).2]; exact (h.v7 e).set hb (by decide)
 ·rw [(ne 10 (by omega)).1] at e; rw [(ne 4 (by omega)).1]; exact h.d10 e
 ·rw [(ne 8 (by omega)).1] at e; rw [(ne 5 (by omega)).1]; exact h.d8 e
 ·rw [(ne 6 (by omega)).1]; exact h6
 ·rw [(ne 10 (by omega)).1] at e; rw [(ne 7 (by omega)).1]; exact h.d7 e
theorem FJ.st10 {fig : Value} {gw gh s : Int} {B : World} {L : Nat → Bool} {vs : Nat → Value} {w : World} {p : Nat} {v : Value} (h : FJ fig gw gh s B L vs w) (hp : vs 7 = .pointer (some ⟨p, 0, none⟩)) (hn : B.heap.size ≤ p) (hb : w.heap[p]? = some (.cells #[.slice none 0 0] 68 (0, 0))) (h7 : L 7 = true) (h4 : L 4 = true) :
  FJ fig gw gh s B (jq L 10) (l9 vs 10 v) (w.setCell ⟨p, 0, none⟩ (vs 4)) := by
 have ne : ∀ j, j ≠ 10 → jq L 10 j = L j ∧ l9 vs 10 v j = vs j := fun j hj => ⟨dT hj, eD hj⟩
 refine ⟨h.b.setCell hn _, fun e => ?_, fun e => ?_, fun e => ?_, fun e => ?_, fun e => ?_, fun e => ?_, fun e => ?_, fun e => ?_, fun e => ?_, fun e => ?_, fun e => ?_, fun e => ?_⟩
 ·rw [(ne 0 (by omega)).1] at e; rw [(ne 0 (by omega)).2]; exact h.v0 e
 ·rw [(ne 1 (by omega)).1] at e; rw [(ne 1 (by omega)).2]; exact h.v1 e
 ·rw [(ne 2 (by omega)).1] at e; rw [(ne 2 (by omega)).2]; exact h.v2 e
 ·rw [(ne 3 (by omega)).1] at e; rw [(ne 3 (by omega)).2]; exact h.v3 e
 ·rw [(ne 4 (by omega)).1] at e; rw [(ne 4 (by omega)).2]; exact Kd.kn (h.v4 e) hb (by decide) 0 _
 ·rw [(ne 5 (by omega)).1] at e; rw [(ne 5 (by omega)).2, (ne 8 (by omega)).1]; exact (h.v5 e).set hb (by decide)
 ·rw [(ne 6 (by omega)).1] at e; rw [(ne 6 (by omega)).2, (ne 9 (by omega)).1]; exact (h.v6 e).set hb (by decide)
 ·rw [ny, if_pos rfl, (ne 7 (by omega)).2, (ne 4 (by omega)).2]; exact ⟨p, hp, hn, bF hb 0 _ rfl⟩
 ·rw [(ne 4 (by omega)).1]; exact h4
 ·rw [(ne 8 (by omega)).1] at e; rw [(ne 5 (by omega)).1]; exact h.d8 e
 ·rw [(ne 9 (by omega)).1] at e; rw [(ne 6 (by omega)).1]; exact h.d9 e
 ·rw [(ne 7 (by omega)).1]; exact h7
def uL (w y x : Int) : Int := shl .u64 1 (y * w + x)
def yz (w h y x : Int) : Int := shl .u64 1 (w * (h + 1) + y * (w + 1) + x)
theorem AO : ∀ w : Nat, w < 5 → ∀ y : Nat, y < 6 → ∀ x : Nat, x < 6 → ∀ h : Nat, h < 5 → dA.f (w : Int) (h : Int) (x : Int) (y : Int) = some (uL w y x) := of_decide_eq_true (by kernel_rfl)
theorem Ai : ∀ w : Nat, w < 5 → ∀ y : Nat, y < 6 → ∀ x : Nat, x < 6 → ∀ h : Nat, h < 5 → bU.f (w : Int) (h : Int) (x : Int) (y : Int) = some (yz w h y x) := of_decide_eq_true (by kernel_rfl)
def cZ (w h : Nat) (s : Int) : Nat → List ByteArray
 | 0 => []
 | y + 1 => cZ w h s y ++ strOfNums (gW 45 s (uL w y) w) :: (if y < h then [strOfNums (gW 124 s (yz w h y) (w + 1))] else [])
theorem iR (w h : Nat) (s : Int) : ∀ y, (cZ w h s y).length ≤ 2 * y
 | 0 => Nat.le_refl _
 | y + 1 => by
  have := iR w h s y
  rw [cZ]
  split <;> simp <;> omega
def lC (w h : Nat) (s : Int) : ByteArray := ⟨(Go.Lib.join ((cZ w h s (h + 1)).map (·.data.toList)) [47]).toArray⟩
theorem me (l : List Int) : (strOfNums l).data.toList.length = l.length := by simp [strOfNums]
theorem lD (w h : Nat) (s : Int) (hw : w ≤ 4) : ∀ y, ∀ r ∈ (cZ w h s y).map (·.data.toList), r.length ≤ 5
 | 0 => fun r hr => by simp [cZ] at hr
 | y + 1 => fun r hr => by
  have ih := lD w h s hw y
  rw [cZ, List.map_append, List.mem_append] at hr
  rcases hr with hr | hr
  ·exact ih r hr
  ·rw [List.map_cons, List.mem_cons] at hr
   rcases hr with rfl | hr
   ·rw [me, jl]; omega
   ·split at hr
    ·simp only [List.map_cons, List.map_nil, List.mem_singleton] at hr
     rw [hr, me, jl]; omega
    ·simp at hr
theorem tL (sep : List UInt8) (m : Nat) : ∀ (l : List (List UInt8)), (∀ r ∈ l, r.length ≤ m) → (Go.Lib.joinTail sep l).length ≤ l.length * (m + sep.length) := by
 intro l
 induction l with
 | nil => intro _; simp [Go.Lib.joinTail]
 | cons a t ih =>
  intro h
  have ha := h a (by simp)
  have ht := ih (fun r hr => h r (by simp [hr]))
  rw [Go.Lib.joinTail, List.map_cons, List.flatten_cons, List.length_append, List.length_append, List.length_cons, Nat.succ_mul]
  rw [Go.Lib.joinTail] at ht
  omega
theorem join_le (sep : List UInt8) (m : Nat) (l : List (List UInt8)) (h : ∀ r ∈ l, r.length ≤ m) : (Go.Lib.join l sep).length ≤ l.length * (m + sep.length) := by
 cases l with
 | nil => rw [Go.Lib.join_nil]; simp
 | cons a t =>
  have ha := h a (by simp)
  have ht := tL sep m t (fun r hr => h r (by simp [hr]))
  rw [Go.Lib.join_cons, List.length_append, List.length_cons, Nat.succ_mul]
  omega
theorem tX (w h : Nat) (s : Int) (hw : w ≤ 4) (hh : h ≤ 4) : (lC w h s).size ≤ 140737488355328 := by
 have h1 := join_le [47] 5 _ (lD w h s hw (h + 1))
 have h2 := iR w h s (h + 1)
 rw [List.length_map] at h1
 have h3 : (lC w h s).size = (Go.Lib.join ((cZ w h s (h + 1)).map (·.data.toList)) [47]).length := by simp [lC, ByteArray.size]
 rw [h3]
 have h4 : (cZ w h s (h + 1)).length * (5 + [(47 : UInt8)].length) ≤ 10 * 6 := Nat.mul_le_mul (by omega) (by simp)
 omega
def cY.f (k : Nat) (a0_0 a0_1 : Int) (l0_2 l0_3 : List Int) : Option ByteArray :=
 (aI.f k a0_0 a0_1 l0_2 l0_3).bind fun s => if 0 ≤ a0_0 ∧ a0_0 ≤ 4 ∧ 0 ≤ a0_1 ∧ a0_1 ≤ 4 then some (lC a0_0.toNat a0_1.toNat s) else none
set_option maxHeartbeats 8000000 in
set_option maxRecDepth 100000 in
theorem cY.calls (k : Nat) (a0_0 a0_1 : Int) (A0_2 : Option Addr) (c0_2 : Nat) (l0_2 : List Int) (A0_3 : Option Addr) (c0_3 : Nat) (l0_3 : List Int) (r : ByteArray) (w : World) (ca : Kd.C (Kd.int .i64) w A0_2 l0_2.length l0_2) (bX : l0_2.length ≤ c0_2) (b0 : Kd.C (Kd.int .i64) w A0_3 l0_3.length l0_3) (bW : l0_3.length ≤ c0_3) (h : cY.f k a0_0 a0_1 l0_2 l0_3 = some r) :
  Calls Tryz.prog 54 #[.agg #[.int .i64 a0_0, .int .i64 a0_1, .slice A0_2 l0_2.length c0_2, .slice A0_3 l0_3.length c0_3]] w fun e w' => e = .returned (.string r) ∧ Below w.heap.size w w' := by
 obtain ⟨s, hs, h⟩ := Option.bind_eq_some_iff.mp h
 split at h
 case isFalse => cases h
 rename_i hcond
 obtain ⟨hw0, hw4, hh0, hh4⟩ := hcond
 have h := Option.some.inj h
 obtain ⟨fw, rfl⟩ := Int.eq_ofNat_of_zero_le hw0
 obtain ⟨fh, rfl⟩ := Int.eq_ofNat_of_zero_le hh0
 rw [Int.toNat_natCast, Int.toNat_natCast] at h
 have HS := aa.mk hs
 have HR := aa.mk h
 have K2 := aa.mk ca
 have K3 := aa.mk b0
 clear hs h ca b0
 go_enter Tryz.func54, Tryz.ntmps54
 go_wp2_with fail
 obtain ⟨B, hB⟩ : ∃ B, w.alloc (.cells #[.int .i64 fw, .int .i64 fh, .slice A0_2 l0_2.length c0_2, .slice A0_3 l0_3.length c0_3] 28) = B := ⟨_, rfl⟩
 have HBB := aa.mk (show Below w.heap.size w B by rw [← hB]; exact ag (Below.refl _ _) _)
 have HBF := aa.mk (show B.heap[w.heap.size]? = some (.cells #[.int .i64 fw, .int .i64 fh, .slice A0_2 l0_2.length c0_2, .slice A0_3 l0_3.length c0_3] 28 (0, 0)) by rw [← hB]; exact heap_alloc_new _ _)
 rw [hB]
 clear hB
 refine qi (by kernel_rfl) (by kernel_rfl) (by kernel_rfl) (fun L vs => { tmps := #[.agg #[.int .i64 fw, .int .i64 fh, .slice A0_2 l0_2.length c0_2, .slice A0_3 l0_3.length c0_3], .pointer (some ⟨w.heap.size, 0, none⟩), .string ⟨#[]⟩, if L 5 then vs 5 else undef, if L 6 then vs 6 else undef, if L 7 then vs 7 else undef, undef, undef, if L 0 then vs 0 else undef, if L 1 then vs 1 else undef, if L 2 then vs 2 else undef, if L 3 then vs 3 else undef, if L 4 then vs 4 else undef, undef, undef, undef, undef, undef, undef, undef, undef, undef, undef, undef, undef, undef, undef, undef, undef, undef, undef, undef, undef, undef, undef, undef, undef, undef], defers := [] }) (by intro L vs; kernel_rfl) (FJ (.agg #[.int .i64 fw, .int .i64 fh, .slice A0_2 l0_2.length c0_2, .slice A0_3 l0_3.length c0_3]) fw fh s B) ?_ ?_ ?_
 ·intro vs
  refine ⟨(Below.refl _ _).drew, ?_, ?_, ?_, ?_, ?_, ?_, ?_, ?_, ?_, ?_, ?_, ?_⟩ <;> (intro h; cases h)
 ·intro i o ho L vs W hLi hdep hJ
  have HJ := aa.mk hJ
  have HL := aa.mk hLi
  have hbk := (hJ.b.block _ (a7 HBF.out)).trans HBF.out
  have hc0 : W.cell? ⟨w.heap.size, 0, none⟩ = some (.int .i64 fw) := (ai hbk 0).trans rfl
  have hc1 : W.cell? ⟨w.heap.size, 1, none⟩ = some (.int .i64 fh) := (ai hbk 1).trans rfl
  have hc2 : W.cell? ⟨w.heap.size, 2, none⟩ = some (.slice A0_2 l0_2.length c0_2) := (ai hbk 2).trans rfl
  have hc3 : W.cell? ⟨w.heap.size, 3, none⟩ = some (.slice A0_3 l0_3.length c0_3) := (ai hbk 3).trans rfl
  clear hJ hbk hLi
  rcases i with _ | _ | _ | _ | _ | _ | _ | _ | _ | _ | _ | i
  ·obtain rfl := Option.some.inj ho
   clear ho hdep
   unfold gB
   go_simp
   exact FJ.upd HJ.out HL.out (by omega) (fun _ => rfl) (fun e => by omega) (fun e => by omega) (fun e => by omega) (fun e => by omega) (fun e => by omega) (fun e => by omega) (fun e => by omega)
  ·obtain rfl := Option.some.inj ho
   have hl : L 0 = true := hdep ⟨0, .data⟩ (by simp) (by rfl)
   have hv := HJ.out.v0 hl
   clear ho hdep
   unfold gB
   go_simp
   refine (bN.calls fw fh A0_2 c0_2 l0_2 A0_3 c0_3 l0_3 fw fh W (Kd.ax K2.out (HBB.out.trans (HJ.out.b.mono HBB.out.size))) bX (Kd.ax K3.out (HBB.out.trans (HJ.out.b.mono HBB.out.size))) bW rfl).mono ?_
   rintro e w2 ⟨rfl, hb2⟩
   exact ⟨_, rfl, FJ.upd (HJ.out.grow hb2) HL.out (by omega) (fun e => by omega) (fun _ => rfl) (fun e => by omega) (fun e => by omega) (fun e => by omega) (fun e => by omega) (fun e => by omega) (fun e => by omega)⟩
  ·obtain rfl := Option.some.inj ho
   clear ho hdep
   unfold gB
   go_simp
   exact FJ.upd HJ.out HL.out (by omega) (fun e => by omega) (fun e => by omega) (fun _ => rfl) (fun e => by omega) (fun e => by omega) (fun e => by omega) (fun e => by omega) (fun e => by omega)
  ·obtain rfl := Option.some.inj ho
   have hl : L 2 = true := hdep ⟨2, .data⟩ (by simp) (by rfl)
   have hv := HJ.out.v2 hl
   clear ho hdep
   unfold gB
   go_simp
   refine (aI.calls k fw fh A0_2 c0_2 l0_2 A0_3 c0_3 l0_3 s W (Kd.ax K2.out (HBB.out.trans (HJ.out.b.mono HBB.out.size))) bX (Kd.ax K3.out (HBB.out.trans (HJ.out.b.mono HBB.out.size))) bW HS.out).mono ?_
   rintro e w2 ⟨rfl, hb2⟩
   exact ⟨_, rfl, FJ.upd (HJ.out.grow hb2) HL.out (by omega) (fun e => by omega) (fun e => by omega) (fun e => by omega) (fun _ => rfl) (fun e => by omega) (fun e => by omega) (fun e => by omega) (fun e => by omega)⟩
  ·obtain rfl := Option.some.inj ho
   clear ho hdep
   unfold gB
   go_simp
   exact FJ.upd (HJ.out.grow (ag (Below.refl _ _) _)) HL.out (by omega) (fun e => by omega) (fun e => by omega) (fun e => by omega) (fun e => by omega) (fun _ => D8 _ _ HJ.out.b.size) (fun e => by omega) (fun e => by omega) (fun e => by omega)
  ·obtain rfl := Option.some.inj ho
   clear ho hdep
   unfold gB
   go_simp
   exact FJ.upd (HJ.out.grow (ag (Below.refl _ _) _)) HL.out (by omega) (fun e => by omega) (fun e => by omega) (fun e => by omega) (fun e => by omega) (fun e => by omega) (fun _ => iZ.new _ _ _ _ HJ.out.b.size) (fun e => by omega) (fun e => by omega)
  ·obtain rfl := Option.some.inj ho
   clear ho hdep
   unfold gB
   go_simp
   exact FJ.upd (HJ.out.grow (ag (Below.refl _ _) _)) HL.out (by omega) (fun e => by omega) (fun e => by omega) (fun e => by omega) (fun e => by omega) (fun e => by omega) (fun e => by omega) (fun _ => iZ.new _ _ _ _ HJ.out.b.size) (fun e => by omega)
  ·obtain rfl := Option.some.inj ho
   clear ho hdep
   unfold gB
   go_simp
   exact FJ.upd (HJ.out.grow (ag (Below.refl _ _) _)) HL.out (by omega) (fun e => by omega) (fun e => by omega) (fun e => by omega) (fun e => by omega) (fun e => by omega) (fun e => by omega) (fun e => by omega) (fun _ => iZ.new _ _ _ _ HJ.out.b.size)
  ·obtain rfl := Option.some.inj ho
   have h5 : L 5 = true := hdep ⟨5, .data⟩ (by simp) (by rfl)
   have hl : L 1 = true := hdep ⟨1, .data⟩ (by simp) (by rfl)
   have h1 := HJ.out.v1 hl
   have hL8 : L 8 = false := HL.out
   obtain ⟨p, hp, hn, hpb⟩ := HJ.out.v5 h5
   rw [hL8] at hpb
   have HPB := aa.mk (show W.heap[p]? = some (.cells #[.int .i64 0, .int .i64 0] 61 (0, 0)) from hpb)
   have hq0 : W.cell? ⟨p, 0, none⟩ = some (.int .i64 0) := (ai HPB.out 0).trans rfl
   have hq1 : W.cell? ⟨p, 1, none⟩ = some (.int .i64 0) := (ai HPB.out 1).trans rfl
   have hf0 : W.frozen? ⟨p, 0, none⟩ = false := aj HPB.out 0
   have hf1 : W.frozen? ⟨p, 1, none⟩ = false := aj HPB.out 1
   have HSET := aa.mk (fun v => FJ.st8 (v := v) HJ.out hp hn HPB.out h5)
   clear ho hdep hpb HPB
   unfold gB
   go_simp
   exact HSET.out _
  ·obtain rfl := Option.some.inj ho
   have h6 : L 6 = true := hdep ⟨6, .data⟩ (by simp) (by rfl)
   have hl : L 3 = true := hdep ⟨3, .data⟩ (by simp) (by rfl)
   have h3 := HJ.out.v3 hl
   have hL9 : L 9 = false := HL.out
   obtain ⟨p, hp, hn, hpb⟩ := HJ.out.v6 h6
   rw [hL9] at hpb
   have HPB := aa.mk (show W.heap[p]? = some (.cells #[.int .u64 0] 57 (0, 0)) from hpb)
   have hq0 : W.cell? ⟨p, 0, none⟩ = some (.int .u64 0) := (ai HPB.out 0).trans rfl
   have hf0 : W.frozen? ⟨p, 0, none⟩ = false := aj HPB.out 0
   have HSET := aa.mk (fun v => FJ.st9 (v := v) HJ.out hp hn HPB.out h6)
   clear ho hdep hpb HPB
   unfold gB
   go_simp
   exact HSET.out _
  ·obtain rfl := Option.some.inj ho
   have h7 : L 7 = true := hdep ⟨7, .data⟩ (by simp) (by rfl)
   have h4 : L 4 = true := hdep ⟨4, .data⟩ (by simp) (by rfl)
   have hL10 : L 10 = false := HL.out
   obtain ⟨p, hp, hn, hpb⟩ := HJ.out.v7 h7
   obtain ⟨A4, c4, hv4⟩ := Kd.bE (HJ.out.v4 h4)
   rw [hL10] at hpb
   have HPB := aa.mk (show W.heap[p]? = some (.cells #[.slice none 0 0] 68 (0, 0)) from hpb)
   have hq0 : W.cell? ⟨p, 0, none⟩ = some (.slice none 0 0) := (ai HPB.out 0).trans rfl
   have hf0 : W.frozen? ⟨p, 0, none⟩ = false := aj HPB.out 0
   have HSET := aa.mk (fun v => FJ.st10 (v := v) HJ.out hp hn HPB.out h7 h4)
   rw [hv4] at HSET
   clear ho hdep hpb HPB
   unfold gB
   go_simp
   exact HSET.out _
  ·exact absurd ho (by simp)
 ·intro L vs W hall hJ
  have e4 : L 4 = true := hall 4 (by simp)
  have e5 : L 5 = true := hall 5 (by simp)
  have e6 : L 6 = true := hall 6 (by simp)
  have e7 : L 7 = true := hall 7 (by simp)
  have e8 : L 8 = true := hall 8 (by simp)
  have e9 : L 9 = true := hall 9 (by simp)
  have e10 : L 10 = true := hall 10 (by simp)
  have e0 := hJ.v0 (hall 0 (by simp))
  have e1 := hJ.v1 (hall 1 (by simp))
  have e2 := hJ.v2 (hall 2 (by simp))
  have e3 := hJ.v3 (hall 3 (by simp))
  obtain ⟨pg, hpg, hng, hbg⟩ := hJ.v5 e5
  obtain ⟨ps, hps, hns, hbs⟩ := hJ.v6 e6
  obtain ⟨pr, hpr, hnr, hbr⟩ := hJ.v7 e7
  obtain ⟨A4, c4, hv4⟩ := Kd.bE (hJ.v4 e4)
  have HV4 := aa.mk (hJ.v4 e4)
  rw [e8, if_pos rfl] at hbg
  rw [e9, if_pos rfl] at hbs
  rw [e10, if_pos rfl] at hbr
  rw [hv4] at hbr HV4
  have HG := aa.mk hbg
  have HSS := aa.mk hbs
  have HRR := aa.mk hbr
  have HBJ := aa.mk hJ.b
  have Ce : W.cell? ⟨pg, 1, none⟩ = some (.int .i64 fh) := (ai HG.out 1).trans rfl
  simp only [if_true, e0, e1, e2, e3, hpg, hps, hpr, hv4]
  clear hall hJ e0 e1 e2 e3 e4 e5 e6 e7 e8 e9 e10 hpg hps hpr hv4 hbg hbs hbr vs L
  go_wp2_with fail
  have FV := aa.mk (HBB.out.trans (HBJ.out.mono HBB.out.size))
  have HV0 := aa.mk (Kd.cW HV4.out HBB.out.size)
  have hpgr : pg ≠ pr := fun e => by
   have h1 := HG.out
   rw [e, HRR.out] at h1
   injection h1 with h1
   injection h1 with _ h1
   exact absurd h1 (by decide)
  have hpsr : ps ≠ pr := fun e => by
   have h1 := HSS.out
   rw [e, HRR.out] at h1
   injection h1 with h1
   injection h1 with _ h1
   exact absurd h1 (by decide)
  have hbpr : w.heap.size ≤ pr := Nat.le_trans HBB.out.size hnr
  go_loopg [7, 17] (fh + 2) (fun gg _ s17 wr => ∃ (yy : Nat) (v : Value), yy ≤ fh + 1 ∧ fh + 1 - yy < gg ∧ s17 = .int .i64 (yy : Int) ∧ aa (wr.heap[pg]? = some (.cells #[.int .i64 fw, .int .i64 fh] 61 (0, 0))) ∧ aa (wr.heap[ps]? = some (.cells #[.int .u64 s] 57 (0, 0))) ∧ aa (wr.heap[pr]? = some (.cells #[v] 68 (0, 0))) ∧ aa (Kd.R Kd.string 9 wr w.heap.size (fun _ => True) v (cZ fw fh s yy)) ∧ aa (Below w.heap.size w wr))
  case atStart => exact ⟨0, _, Nat.zero_le _, by omega, rfl, HG, HSS, HRR, HV0, FV⟩
  case round =>
   clear HG HSS HRR HV0 FV HV4
   obtain ⟨yy, v, hyy, hgy, rfl, HG, HSS, HRR, HV, HBW⟩ := hrel
   by_cases hlt : yy < fh + 1
   ·have hltz : (yy : Int) < (fh : Int) + 1 := by omega
    go_wp2_with (first
     | ((with_reducible refine aV (N := 7) rfl ?_); refine aM ?hg (N := 7) ?hd (cs := #[.int .i64 0]) (t := 3) ?hr ?_; (case hd => rfl); (case hg => rfl); (case hr => first | (go_simp; done) | (go_simp; rfl)); intro gy ED W1 hby hb1; have HGY := aa.mk ED; have HBY := aa.mk hby; have HB1 := aa.mk hb1; clear ED hby hb1; have hcy : W1.cell? ⟨gy, 0, none⟩ = some (.int .i64 0) := (ai HBY.out 0).trans rfl; have hfy : W1.frozen? ⟨gy, 0, none⟩ = false := aj HBY.out 0; have HG1 := aa.mk ((HB1.out.block _ (a7 HG.out)).trans HG.out); have zd : W1.cell? ⟨pg, 0, none⟩ = some (.int .i64 fw) := (ai HG1.out 0).trans rfl; have Ce : W1.cell? ⟨pg, 1, none⟩ = some (.int .i64 fh) := (ai HG1.out 1).trans rfl; have hn1 : pg ≠ gy := (by have := HGY.out; have := a7 HG.out; omega); have hn2 : gy ≠ pg := hn1.symm))
    obtain ⟨W2, hW2⟩ : ∃ W2, W1.setCell ⟨gy, 0, none⟩ (.int .i64 (yy : Int)) = W2 := ⟨_, rfl⟩
    have hygr : gy ≠ pr := by have := HGY.out; have := a7 HRR.out; omega
    have hgyw : w.heap.size ≤ gy := by have := HGY.out; have := HBW.out.size; omega
    have hpsy : ps ≠ gy := by have := HGY.out; have := a7 HSS.out; omega
    have hpry : pr ≠ gy := fun e => hygr e.symm
    have HG2 := aa.mk (show W2.heap[pg]? = some (.cells #[.int .i64 fw, .int .i64 fh] 61 (0, 0)) by rw [← hW2]; exact (Below.heap_setCell W1 ⟨gy, 0, none⟩ _ pg hn1).trans HG1.out)
    have HS2 := aa.mk (show W2.heap[ps]? = some (.cells #[.int .u64 s] 57 (0, 0)) by rw [← hW2]; exact (Below.heap_setCell W1 ⟨gy, 0, none⟩ _ ps hpsy).trans ((HB1.out.block _ (a7 HSS.out)).trans HSS.out))
    have HR2 := aa.mk (show W2.heap[pr]? = some (.cells #[v] 68 (0, 0)) by rw [← hW2]; exact (Below.heap_setCell W1 ⟨gy, 0, none⟩ _ pr hpry).trans ((HB1.out.block _ (a7 HRR.out)).trans HRR.out))
    have HY2 := aa.mk (show W2.heap[gy]? = some (.cells #[.int .i64 (yy : Int)] 3 (0, 0)) by rw [← hW2]; exact bF HBY.out 0 _ rfl)
    have HV2 := aa.mk (show Kd.R Kd.string 9 W2 w.heap.size (fun _ => True) v (cZ fw fh s yy) by rw [← hW2]; exact Kd.kn (Kd.cx HV.out HB1.out) HBY.out (by decide) 0 _)
    have HB2 := aa.mk (show Below w.heap.size w W2 by rw [← hW2]; exact (HBW.out.trans (HB1.out.mono HBW.out.size)).setCell hgyw _)
    have hcy2 : W2.cell? ⟨gy, 0, none⟩ = some (.int .i64 (yy : Int)) := (ai HY2.out 0).trans rfl
    rw [hW2]
    clear hW2 hcy hfy zd Ce HG1 HBY HB1 HV HRR HSS HG HBW
    have hrl : (cZ fw fh s yy).length < 900 := by have := iR fw fh s yy; omega
    refine (nh 82 #[.pointer (some ⟨pg, 0, none⟩), .pointer (some ⟨gy, 0, none⟩)] (uL fw yy) fw 45 s ps pr v (cZ fw fh s yy) w.heap.size w W2 (u9 pg gy fw fh yy (uL fw yy) fw W2 (fun x hx => AO fw (by omega) yy (by omega) x (by omega) fh (by omega)) HG2.out HY2.out) (by omega) HS2.out HR2.out HV2.out HB2.out HB2.out.size hbpr hpsr (by omega)).mono ?_
    rintro e w3 ⟨rfl, v3, hr3, hv3, hb3, hk3, hat3⟩
    have HG3 := aa.mk (hk3.blk HG2.out hpgr (Kd.jF HV2.out HG2.out (by decide)))
    have HS3 := aa.mk (hk3.blk HS2.out hpsr (Kd.jF HV2.out HS2.out (by decide)))
    have HY3 := aa.mk (hk3.blk HY2.out hygr (Kd.jF HV2.out HY2.out (by decide)))
    have HR3 := aa.mk hr3
    have HV3 := aa.mk hv3
    have HB3 := aa.mk hb3
    clear hr3 hv3 hb3 hk3 hat3
    have hcy3 : w3.cell? ⟨gy, 0, none⟩ = some (.int .i64 (yy : Int)) := (ai HY3.out 0).trans rfl
    have hcg30 : w3.cell? ⟨pg, 0, none⟩ = some (.int .i64 fw) := (ai HG3.out 0).trans rfl
    have hcg31 : w3.cell? ⟨pg, 1, none⟩ = some (.int .i64 fh) := (ai HG3.out 1).trans rfl
    by_cases hlast : yy < fh
    ·have hlz : (yy : Int) < (fh : Int) := by omega
     have hrow : cZ fw fh s (yy + 1) = (cZ fw fh s yy ++ [strOfNums (gW 45 s (uL fw yy) fw)]) ++ [strOfNums (gW 124 s (yz fw fh yy) (fw + 1))] := by rw [cZ, if_pos hlast]; simp
     go_wp2_with fail
     refine (nh 83 #[.pointer (some ⟨pg, 0, none⟩), .pointer (some ⟨gy, 0, none⟩)] (yz fw fh yy) (fw + 1) 124 s ps pr v3 (cZ fw fh s yy ++ [strOfNums (gW 45 s (uL fw yy) fw)]) w.heap.size w w3 (sN pg gy fw fh yy (yz fw fh yy) (fw + 1) w3 (fun x hx => Ai fw (by omega) yy (by omega) x (by omega) fh (by omega)) HG3.out HY3.out) (by omega) HS3.out HR3.out HV3.out HB3.out HB3.out.size hbpr hpsr (by simp; omega)).mono ?_
     rintro e w4 ⟨rfl, v4, hr4, hv4, hb4, hk4, hat4⟩
     have HG4 := aa.mk (hk4.blk HG3.out hpgr (Kd.jF HV3.out HG3.out (by decide)))
     have HS4 := aa.mk (hk4.blk HS3.out hpsr (Kd.jF HV3.out HS3.out (by decide)))
     have HY4 := aa.mk (hk4.blk HY3.out hygr (Kd.jF HV3.out HY3.out (by decide)))
     have HR4 := aa.mk hr4
     have HV4 := aa.mk hv4
     have HB4 := aa.mk hb4
     clear hr4 hv4 hb4 hk4 hat4
     rw [← hrow] at HV4
     go_wp2_with fail
     go_roundg (fh + 1 - yy)
     case measure => omega
     case rel => exact ⟨yy + 1, v4, by omega, by omega, by go_num, HG4, HS4, HR4, HV4, HB4⟩
    ·have hlz : ¬ (yy : Int) < (fh : Int) := by omega
     have hrow : cZ fw fh s (yy + 1) = cZ fw fh s yy ++ [strOfNums (gW 45 s (uL fw yy) fw)] := by rw [cZ, if_neg hlast]
     rw [← hrow] at HV3
     go_wp2_with fail
     go_roundg (fh + 1 - yy)
     case measure => omega
     case rel => exact ⟨yy + 1, v3, by omega, by omega, by go_num, HG3, HS3, HR3, HV3, HB3⟩
   ·have hltz : ¬ (yy : Int) < (fh : Int) + 1 := by omega
    obtain rfl : yy = fh + 1 := by omega
    obtain ⟨AR, cR, hvr⟩ := Kd.bE HV.out
    subst hvr
    have hlen1 : 0 < (cZ fw fh s (fh + 1)).length := by rw [cZ]; simp
    have hlen2 := iR fw fh s (fh + 1)
    have hcr : wr.cell? ⟨pr, 0, none⟩ = some (.slice AR (cZ fw fh s (fh + 1)).length cR) := (ai HRR.out 0).trans rfl
    obtain ⟨inner, hown⟩ := Kd.p8 HV.out
    obtain ⟨ho1, ho2⟩ := hown
    rcases ho2 with ho2 | ⟨b, cap, cur, hveq, hob, hoh, hor⟩
    ·exfalso
     have := ho2.1
     simp at this
     omega
    obtain ⟨rfl, _, rfl⟩ : AR = some ⟨b, 0, none⟩ ∧ True ∧ cR = cap := by
     simp only [Value.slice.injEq] at hveq
     exact ⟨hveq.1, trivial, hveq.2.2⟩
    have hlt1 : (lC fw fh s).size ≤ 140737488355328 := tX fw fh s (by omega) (by omega)
    have HJN := aa.mk (Tryz.strings_Join b 0 cR (cZ fw fh s (fh + 1)) ⟨#[47]⟩ wr (fun j x hx => by
     have hj : j < (cZ fw fh s (fh + 1)).length := (List.getElem?_eq_some_iff.1 hx).1
     have h1 := (Kd.zM ByteArray.empty HV.out (j : Int) (by omega) (by omega)).1
     rw [Int.toNat_natCast] at h1
     rw [Nat.zero_add, h1, yN, Int.toNat_natCast, List.getD_eq_getElem?_getD, hx]
     rfl) (Kd.ko HV.out b (by simp [Value.ownBlock])) (by omega) (Kd.bZ HV.out).2.1 (by
     have h1 := hlt1
     unfold lC at h1
     simpa [ByteArray.size] using h1))
    clear ho1 hveq hoh hor hlt1
    go_wp2_with (go_at_call 84; refine HJN.out.mono ?_; rintro e w9 ⟨rfl, hb9⟩)
    go_ret
    refine ⟨?_, HBW.out.trans (hb9.mono HBW.out.size)⟩
    rw [← HR.out]
    rfl
end Go.Proofs.YtmjlmloomkodpaaGreatDoor.PA
namespace Go.Proofs.YtmjlmloomkodpaaGreatDoor.PA
open Go.RowKit Go.Proofs.ae.aw Go.Proofs.ae.aJ Go.Proofs.ae.aN
attribute [local go_sem] bo bm bC bB a6 aZ bn bj
set_option linter.unusedVariables false
set_option linter.unusedSimpArgs false
def fu.f (k : Nat) (a0_0 a0_1 : Int) (l0_2 l0_3 : List Int) (a1_0 a1_1 : Int) (l1_2 l1_3 : List Int) : Option Int :=
 (cY.f k a0_0 a0_1 l0_2 l0_3).bind fun t1 => (cY.f k a1_0 a1_1 l1_2 l1_3).bind fun t2 => some (Go.Lib.compareBytes t1.data.toList t2.data.toList)
set_option maxHeartbeats 8000000 in
set_option maxRecDepth 100000 in
theorem fu.calls (k : Nat) (a0_0 a0_1 : Int) (A0_2 : Option Addr) (c0_2 : Nat) (l0_2 : List Int) (A0_3 : Option Addr) (c0_3 : Nat) (l0_3 : List Int) (a1_0 a1_1 : Int) (A1_2 : Option Addr) (c1_2 : Nat) (l1_2 : List Int) (A1_3 : Option Addr) (c1_3 : Nat) (l1_3 : List Int) (r : Int) (w : World)
  (ca : Kd.C (Kd.int .i64) w A0_2 l0_2.length l0_2) (bX : l0_2.length ≤ c0_2) (b0 : Kd.C (Kd.int .i64) w A0_3 l0_3.length l0_3) (bW : l0_3.length ≤ c0_3) (tR : Kd.C (Kd.int .i64) w A1_2 l1_2.length l1_2) (wV : l1_2.length ≤ c1_2) (tQ : Kd.C (Kd.int .i64) w A1_3 l1_3.length l1_3) (wU : l1_3.length ≤ c1_3)
  (h : fu.f k a0_0 a0_1 l0_2 l0_3 a1_0 a1_1 l1_2 l1_3 = some r) :
  Calls Tryz.prog 80 #[.agg #[.int .i64 a0_0, .int .i64 a0_1, .slice A0_2 l0_2.length c0_2, .slice A0_3 l0_3.length c0_3], .agg #[.int .i64 a1_0, .int .i64 a1_1, .slice A1_2 l1_2.length c1_2, .slice A1_3 l1_3.length c1_3]] w fun e w' => e = .returned (.int .i64 r) ∧ Below w.heap.size w w' := by
 obtain ⟨t1, ht1, h⟩ := Option.bind_eq_some_iff.mp h
 obtain ⟨t2, ht2, h⟩ := Option.bind_eq_some_iff.mp h
 have h := Option.some.inj h
 have H1 := aa.mk ht1
 have H2 := aa.mk ht2
 have HR := aa.mk h
 have R2 := aa.mk ca
 have R3 := aa.mk b0
 have S2 := aa.mk tR
 have S3 := aa.mk tQ
 have HCMP := aa.mk (fun W => Tryz.strings_Compare t1 t2 W)
 clear ht1 ht2 h ca b0 tR tQ
 go_enter Tryz.func80, Tryz.ntmps80
 go_wp2_with fail
 obtain ⟨W, hW⟩ : ∃ W, (w.alloc (.cells #[.int .i64 a0_0, .int .i64 a0_1, .slice A0_2 l0_2.length c0_2, .slice A0_3 l0_3.length c0_3] 28)).alloc (.cells #[.int .i64 a1_0, .int .i64 a1_1, .slice A1_2 l1_2.length c1_2, .slice A1_3 l1_3.length c1_3] 28) = W := ⟨_, rfl⟩
 have HBW := aa.mk (show Below w.heap.size w W by rw [← hW]; exact ag (ag (Below.refl _ _) _) _)
 have hb1 : W.heap[w.heap.size]? = some (.cells #[.int .i64 a0_0, .int .i64 a0_1, .slice A0_2 l0_2.length c0_2, .slice A0_3 l0_3.length c0_3] 28 (0, 0)) := by
  rw [← hW, Below.heap_alloc _ _ _ (by simp)]
  exact heap_alloc_new _ _
 have hb2 : W.heap[w.heap.size + 1]? = some (.cells #[.int .i64 a1_0, .int .i64 a1_1, .slice A1_2 l1_2.length c1_2, .slice A1_3 l1_3.length c1_3] 28 (0, 0)) := by
  have h := heap_alloc_new (w.alloc (.cells #[.int .i64 a0_0, .int .i64 a0_1, .slice A0_2 l0_2.length c0_2, .slice A0_3 l0_3.length c0_3] 28)) (.cells #[.int .i64 a1_0, .int .i64 a1_1, .slice A1_2 l1_2.length c1_2, .slice A1_3 l1_3.length c1_3] 28)
  rw [World.size_alloc] at h
  rw [← hW]; exact h
 rw [hW]
 have q10 := fun p => aY.cell (show W.cell? ⟨w.heap.size, 0, none⟩ = some (.int .i64 a0_0) from (ai hb1 0).trans rfl) p
 have q11 := fun p => aY.cell (show W.cell? ⟨w.heap.size, 1, none⟩ = some (.int .i64 a0_1) from (ai hb1 1).trans rfl) p
 have q12 := fun p => aY.cell (show W.cell? ⟨w.heap.size, 2, none⟩ = some (.slice A0_2 l0_2.length c0_2) from (ai hb1 2).trans rfl) p
 have q13 := fun p => aY.cell (show W.cell? ⟨w.heap.size, 3, none⟩ = some (.slice A0_3 l0_3.length c0_3) from (ai hb1 3).trans rfl) p
 have q20 := fun p => aY.cell (show W.cell? ⟨w.heap.size + 1, 0, none⟩ = some (.int .i64 a1_0) from (ai hb2 0).trans rfl) p
 have q21 := fun p => aY.cell (show W.cell? ⟨w.heap.size + 1, 1, none⟩ = some (.int .i64 a1_1) from (ai hb2 1).trans rfl) p
 have q22 := fun p => aY.cell (show W.cell? ⟨w.heap.size + 1, 2, none⟩ = some (.slice A1_2 l1_2.length c1_2) from (ai hb2 2).trans rfl) p
 have q23 := fun p => aY.cell (show W.cell? ⟨w.heap.size + 1, 3, none⟩ = some (.slice A1_3 l1_3.length c1_3) from (ai hb2 3).trans rfl) p
 clear hW hb1 hb2
 refine dz (by kernel_rfl) (by kernel_rfl) ?_
 repeat (go_big_quiet_step (first
  | (go_at_call 54; first | (with_reducible exact aY.ret (cY.calls k a0_0 a0_1 A0_2 c0_2 l0_2 A0_3 c0_3 l0_3 t1 _ (dR R2.out HBW.out _) bX (dR R3.out HBW.out _) bW H1.out)) | (with_reducible exact aY.ret (cY.calls k a1_0 a1_1 A1_2 c1_2 l1_2 A1_3 c1_3 l1_3 t2 _ (dR S2.out HBW.out _) wV (dR S3.out HBW.out _) wU H2.out)))
  | (go_at_call 115; exact aY.ret ((HCMP.out _).mono (fun e w' h => ⟨h.1, by rw [h.2]; exact Below.refl _ _⟩)))))
 refine wpQuiet_nil ?_
 rintro w' ⟨p, rfl⟩
 go_wp2
 go_ret
 exact ⟨by rw [HR.out]; rfl, HBW.out.trans (p.h.mono HBW.out.size)⟩
end Go.Proofs.YtmjlmloomkodpaaGreatDoor.PA
namespace Go.Proofs.YtmjlmloomkodpaaGreatDoor.PA
open Go.RowKit Go.Proofs.ae.aw Go.Proofs.ae.aJ Go.Proofs.ae.aN
attribute [local go_sem] bo bm bC bB a6 aZ bn bj
set_option linter.unusedVariables false
set_option linter.unusedSimpArgs false
def bM.f (k : Nat) (a0_0 : Int) (a0_1 : Int) (a1 : Int) : Option (Int × Int × List Int × List Int) := (bu.f a0_0 a0_1).bind fun t148 => (if 0 ≤ t148 then ((ba.f k (Go.bits .and .u64 a1 (IntKind.u64.wrap ((shl .u64 1 t148) - 1)))).bind fun t149 => ((bu.f a0_0 a0_1).bind fun t152 => (if 0 ≤ t152 then ((ba.f k (shr .u64 a1 t152)).bind fun t153 => (some (a0_0, a0_1, t149, t153))) else (none)))) else (none))
def bM.T2 : Bool × List (List Nat × List Nat) := (true, [([], []), ([0], [0]), ([], []), ([2], [2]), ([], []), ([], []), ([4, 5], [4, 5]), ([6], [6]), ([], []), ([], []), ([9, 7], [9]), ([8, 10], [8, 10]), ([11, 10], [11]), ([1, 3, 7, 12], [1, 3, 7, 12]), ([13, 12, 0, 1, 2, 3, 4, 5, 6, 7, 8, 9, 10, 11, 12, 13], [13])])
def bM.B2 : List Nat := [0, 1, 0, 4, 0, 0, 48, 112, 0, 0, 752, 2032, 4080, 8191, 16383]
theorem bM.tab2 : iw .any (opsOf Tryz.f40 2) = bM.T2 := by kernel_rfl
theorem bM.EO : gL bM.T2.2 bM.B2 = true := by kernel_rfl
set_option maxHeartbeats 8000000 in
set_option maxRecDepth 100000 in
theorem bM.calls (k : Nat) (a0_0 : Int) (a0_1 : Int) (a1 : Int) (r1 : Int) (r2 : Int) (r3 : List Int) (r4 : List Int) (w : World) (hT : ej w) (h : bM.f k a0_0 a0_1 a1 = some (r1, r2, r3, r4)) :
  Calls Tryz.prog 40 #[.agg #[.int .i64 a0_0, .int .i64 a0_1], .int .u64 a1] w fun e w' => ∃ v2_ v3_ : Value, e = .returned (.agg #[.int .i64 r1, .int .i64 r2, v2_, v3_]) ∧ Kd.R (Kd.int .i64) 3 w' w.heap.size (fun k_ => some k_ ≠ (v3_ : Value).ownBlock) v2_ r3 ∧ Kd.R (Kd.int .i64) 3 w' w.heap.size (fun k_ => some k_ ≠ (v2_ : Value).ownBlock) v3_ r4 ∧ Below w.heap.size w w' := by
 have hu61 := Tryz.underlying61
 have hu28 := Tryz.underlying28
 have HT := aa.mk hT
 clear hT
 have HB := aa.mk (Below.refl w.heap.size w)
 have H : ((bu.f a0_0 a0_1).bind fun t148 => (if 0 ≤ t148 then ((ba.f k (Go.bits .and .u64 a1 (IntKind.u64.wrap ((shl .u64 1 t148) - 1)))).bind fun t149 => ((bu.f a0_0 a0_1).bind fun t152 => (if 0 ≤ t152 then ((ba.f k (shr .u64 a1 t152)).bind fun t153 => (some (a0_0, a0_1, t149, t153))) else (none)))) else (none))) = some (r1, r2, r3, r4) := h
 clear h
 replace H := Option.bind_eq_some_iff.mp H
 obtain ⟨t148, A30, H⟩ := H
 replace H : (if 0 ≤ t148 then ((ba.f k (Go.bits .and .u64 a1 (IntKind.u64.wrap ((shl .u64 1 t148) - 1)))).bind fun t149 => ((bu.f a0_0 a0_1).bind fun t152 => (if 0 ≤ t152 then ((ba.f k (shr .u64 a1 t152)).bind fun t153 => (some (a0_0, a0_1, t149, t153))) else (none)))) else (none)) = some (r1, r2, r3, r4) := H
 have A3 := aa.mk A30
 clear A30
 by_cases c4 : 0 ≤ t148
 ·rw [if_pos c4] at H
  have c4b0 := eq_true c4
  have c4b1 : decide (0 ≤ t148) = true := decide_eq_true c4
  clear c4
  obtain ⟨ji5, hji5⟩ : ∃ j_ : Int, (shl .u64 1 t148) = j_ := ⟨_, rfl⟩
  replace H : ((ba.f k (Go.bits .and .u64 a1 (IntKind.u64.wrap ((ji5) - 1)))).bind fun t149 => ((bu.f a0_0 a0_1).bind fun t152 => (if 0 ≤ t152 then ((ba.f k (shr .u64 a1 t152)).bind fun t153 => (some (a0_0, a0_1, t149, t153))) else (none)))) = some (r1, r2, r3, r4) := by first | (rw [hji5] at H; exact H) | (simp only [hji5] at H ⊢; exact H)
  (try rw [hji5] at A3)
  have hji5_ : (IntKind.u64.wrap (1 * 2 ^ min t148.toNat 64)) = ji5 := hji5
  have hji5z : t148 ≤ 64 → (IntKind.u64.wrap (1 * 2 ^ t148.toNat)) = ji5 := fT hji5
  have hji5u : (IntKind.u64.wrap (2 ^ min t148.toNat 64)) = ji5 := by have h_ := hji5_; rw [Int.one_mul] at h_; exact h_
  have hji5v : t148 ≤ 64 → (IntKind.u64.wrap (2 ^ t148.toNat)) = ji5 := fun hle_ => by have h_ := hji5z hle_; rw [Int.one_mul] at h_; exact h_
  replace H := Option.bind_eq_some_iff.mp H
  obtain ⟨t149, A60, H⟩ := H
  replace H : ((bu.f a0_0 a0_1).bind fun t152 => (if 0 ≤ t152 then ((ba.f k (shr .u64 a1 t152)).bind fun t153 => (some (a0_0, a0_1, t149, t153))) else (none))) = some (r1, r2, r3, r4) := H
  have A6 := aa.mk A60
  clear A60
  replace H := Option.bind_eq_some_iff.mp H
  obtain ⟨t152, A70, H⟩ := H
  replace H : (if 0 ≤ t152 then ((ba.f k (shr .u64 a1 t152)).bind fun t153 => (some (a0_0, a0_1, t149, t153))) else (none)) = some (r1, r2, r3, r4) := H
  have A7 := aa.mk A70
  clear A70
  by_cases c8 : 0 ≤ t152
  ·rw [if_pos c8] at H
   have c8b0 := eq_true c8
   have c8b1 : decide (0 ≤ t152) = true := decide_eq_true c8
   clear c8
   obtain ⟨ji9, hji9⟩ : ∃ j_ : Int, (shr .u64 a1 t152) = j_ := ⟨_, rfl⟩
   replace H : ((ba.f k (ji9)).bind fun t153 => (some (a0_0, a0_1, t149, t153))) = some (r1, r2, r3, r4) := by first | (rw [hji9] at H; exact H) | (simp only [hji9] at H ⊢; exact H)
   (try rw [hji9] at A3)
   (try rw [hji9] at A6)
   (try rw [hji9] at A7)
   have hji9_ : (a1 / 2 ^ min t152.toNat 64) = ji9 := hji9
   have hji9z : t152 ≤ 64 → (a1 / 2 ^ t152.toNat) = ji9 := xH hji9
   replace H := Option.bind_eq_some_iff.mp H
   obtain ⟨t153, A100, H⟩ := H
   replace H : (some (a0_0, a0_1, t149, t153)) = some (r1, r2, r3, r4) := H
   have A10 := aa.mk A100
   clear A100
   simp only [Option.some.injEq, Prod.mk.injEq] at H
   obtain ⟨rfl, rfl, rfl, rfl⟩ := H
   go_enter Tryz.func40, Tryz.ntmps40
   try go_wp2_with (first | ((with_reducible refine aV (N := 2) rfl ?_); refine aM ?hg (N := 2) ?hd (cs := #[.int .i64 a0_0, .int .i64 a0_1]) (t := 61) ?hr ?_; (case hd => rfl); (case hg => rfl); (case hr => first | (go_simp; done) | (go_simp; rfl)); intro jC hg w11 hbox hb; have n0_ := aa.mk (ar (by repeat (first | (with_reducible first | exact HB.out | apply ag | apply af | apply ah) | exact HB.out)) hb); have n1_ := aa.mk (hbox); have n2_ := aa.mk ((by rw [hg]; exact (aq (by repeat (first | (with_reducible first | exact HB.out | apply ag | apply af | apply ah) | exact HB.out))) : w.heap.size ≤ jC)); have n3_ := aa.mk ((by rw [hg]; exact (aq (by repeat (first | (with_reducible first | exact HB.out | apply ag | apply af | apply ah) | exact HB.out))) : w.heap.size ≤ jC)); clear HB; have HB := n0_; have eG := n1_; have GW146 := n2_; have kW := n3_; clear n0_ n1_ n2_ n3_; clear hb hbox hg) | ((with_reducible refine aV (N := 4) rfl ?_); refine aM ?hg (N := 4) ?hd (cs := #[.int .i64 0, .int .i64 0, .slice none 0 0, .slice none 0 0]) (t := 28) ?hr ?_; (case hd => rfl); (case hg => rfl); (case hr => first | (go_simp; done) | (go_simp; rfl)); intro fe hg w12 hbox hb; have n0_ := aa.mk (aD (g := jC) (o := .cells #[.int .i64 a0_0, .int .i64 a0_1] 61 (0, 0)) (by (with_reducible repeat (first | refine al ?_ _ | refine ao ?_ | refine an ?_ _)); exact eG.out) hb); have n1_ := aa.mk (ar (by repeat (first | (with_reducible first | exact HB.out | apply ag | apply af | apply ah | refine ak ?_ kW.out) | exact HB.out)) hb); have n2_ := aa.mk (hbox); have n3_ := aa.mk ((by rw [hg]; exact (aq (by repeat (first | (with_reducible first | exact HB.out | apply ag | apply af | apply ah | refine ak ?_ kW.out) | exact HB.out))) : w.heap.size ≤ fe)); have n4_ := aa.mk ((by rw [hg]; exact (aq (by repeat (first | (with_reducible first | exact HB.out | apply ag | apply af | apply ah | refine ak ?_ kW.out) | exact HB.out))) : w.heap.size ≤ fe)); have n5_ := aa.mk ((by rw [hg]; exact Nat.ne_of_lt (a7 (g := jC) (o := .cells #[.int .i64 a0_0, .int .i64 a0_1] 61 (0, 0)) (by (with_reducible repeat (first | refine al ?_ _ | refine ao ?_ | refine an ?_ _)); exact eG.out)) : jC ≠ fe)); have n6_ := aa.mk ((by rw [hg]; exact Nat.ne_of_gt (a7 (g := jC) (o := .cells #[.int .i64 a0_0, .int .i64 a0_1] 61 (0, 0)) (by (with_reducible repeat (first | refine al ?_ _ | refine ao ?_ | refine an ?_ _)); exact eG.out)) : fe ≠ jC)); clear eG; clear HB; have eG := n0_; have HB := n1_; have fE := n2_; have GW147 := n3_; have nw := n4_; have eN := n5_; have kp := n6_; clear n0_ n1_ n2_ n3_ n4_ n5_ n6_; clear hb hbox hg; have hnb13 := eN.out; have hnc13 := kp.out; have wR : w12.cell? ⟨jC, 0, none⟩ = some (.int .i64 a0_0) := (ai eG.out 0).trans rfl; have wQ : w12.cell? ⟨jC, 1, none⟩ = some (.int .i64 a0_1) := (ai eG.out 1).trans rfl; have wj := aj eG.out 0; have wi := aj eG.out 1) | ((with_reducible refine az (f := 69) rfl ?_); refine bI (some 7) rfl rfl Tryz.func69 (by kernel_rfl) rfl #[.agg #[.int .i64 a0_0, .int .i64 a0_1]] rfl (by (try simp only [List.map_toArray, List.map_cons, List.map_nil]); first | done | rfl | (simp only [List.length_drop, List.length_take]; rfl)) ?_; (with_reducible refine (bu.calls a0_0 a0_1 t148 _ A3.out).mono ?_); rintro e w15 ⟨rfl, hb⟩; refine ⟨_, rfl, ?_⟩; have n0_ := aa.mk (aD (g := jC) (o := .cells #[.int .i64 a0_0, .int .i64 a0_1] 61 (0, 0)) (by (with_reducible repeat (first | refine al ?_ _ | refine ao ?_ | refine an ?_ _)); exact eG.out) hb); have n1_ := aa.mk (aD (g := fe) (o := .cells #[.int .i64 0, .int .i64 0, .slice none 0 0, .slice none 0 0] 28 (0, 0)) (by (with_reducible repeat (first | refine al ?_ _ | refine ao ?_ | refine an ?_ _)); exact fE.out) hb); have n2_ := aa.mk (ar (by repeat (first | (with_reducible first | exact HB.out | apply ag | apply af | apply ah | refine ak ?_ kW.out | refine ak ?_ nw.out) | exact HB.out)) hb); clear eG; clear fE; clear HB; have eG := n0_; have fE := n1_; have HB := n2_; clear n0_ n1_ n2_; (try clear hb); (try clear hb2); (try clear hk); (try clear hi)))
   have n0_ := aa.mk (ao eG.out)
   have n1_ := aa.mk (ao fE.out)
   have n2_ := aa.mk (ah HB.out)
   clear eG
   clear fE
   clear HB
   have eG := n0_
   have fE := n1_
   have HB := n2_
   clear n0_ n1_ n2_
   refine j6 (n := 15) (S := fun w' => w'.cell? ⟨jC, 0, none⟩ = some (.int .i64 a0_0) ∧ w'.cell? ⟨jC, 1, none⟩ = some (.int .i64 a0_1)) (ds := []) #[false, false, false, false, false, false, false, false, false, false, false, false, false, false, false] (by kernel_rfl) rfl rfl ⟨(ai eG.out 0).trans rfl, (ai eG.out 1).trans rfl⟩ (fun hHeld => ?_); refine fS bM.tab2 bM.EO (fun HT_ HW_ => ?_)
   generalize w15.drew = w16 at eG fE HB hHeld ⊢
   refine bO (i := 0) (N := some 10) (v := ?_) (a' := ?_) #[true, false, false, false, false, false, false, false, false, false, false, false, false, false, false] rfl rfl (bx HT_.out (by kernel_rfl)) (fun _ _ _ h => h) (Or.inl ⟨by rfl, ?_⟩) ?_ ?_
   rotate_left
   ·intro w'
    go_simp
    with_reducible rfl
   rotate_left
   ·simp only [Act.put, List.setIfInBounds_toArray, List.set_cons_zero, List.set_cons_succ, a8, bf]
    rfl
   refine bO (i := 2) (N := some 12) (v := ?_) (a' := ?_) #[true, false, true, false, false, false, false, false, false, false, false, false, false, false, false] rfl rfl (bx HT_.out (by kernel_rfl)) (fun _ _ _ h => h) (Or.inl ⟨by rfl, ?_⟩) ?_ ?_
   rotate_left
   ·intro w'
    go_simp
    with_reducible rfl
   rotate_left
   ·simp only [Act.put, List.setIfInBounds_toArray, List.set_cons_zero, List.set_cons_succ, a8, bf]
    rfl
   refine bO (i := 4) (N := some 14) (v := ?_) (a' := ?_) #[true, false, true, false, true, false, false, false, false, false, false, false, false, false, false] rfl rfl (bx HT_.out (by kernel_rfl)) (fun _ _ _ h => h) (Or.inl ⟨by rfl, ?_⟩) ?_ ?_
   rotate_left
   ·intro w'
    go_simp
    with_reducible rfl
   rotate_left
   ·simp only [Act.put, List.setIfInBounds_toArray, List.set_cons_zero, List.set_cons_succ, a8, bf]
    rfl
   refine bO (i := 5) (N := some 15) (v := ?_) (a' := ?_) #[true, false, true, false, true, true, false, false, false, false, false, false, false, false, false] rfl rfl (bx HT_.out (by kernel_rfl)) (fun _ _ _ h => h) (Or.inl ⟨by rfl, ?_⟩) ?_ ?_
   rotate_left
   ·intro w'
    go_simp
    with_reducible rfl
   rotate_left
   ·simp only [Act.put, List.setIfInBounds_toArray, List.set_cons_zero, List.set_cons_succ, a8, bf]
    rfl
   refine bO (i := 6) (N := some 16) (v := ?_) (a' := ?_) #[true, false, true, false, true, true, true, false, false, false, false, false, false, false, false] rfl rfl (bx HT_.out (by kernel_rfl)) (fun _ _ _ h => h) (Or.inl ⟨by rfl, ?_⟩) ?_ ?_
   rotate_left
   ·intro w'
    go_simp
    with_reducible rfl
   rotate_left
   ·simp only [Act.put, List.setIfInBounds_toArray, List.set_cons_zero, List.set_cons_succ, a8, bf]
    rfl
   refine bO (i := 8) (N := some 18) (v := ?_) (a' := ?_) #[true, false, true, false, true, true, true, false, true, false, false, false, false, false, false] rfl rfl (bx HT_.out (by kernel_rfl)) (fun _ _ _ h => h) (Or.inl ⟨by rfl, ?_⟩) ?_ ?_
   rotate_left
   ·intro w'
    go_simp
    with_reducible rfl
   rotate_left
   ·simp only [Act.put, List.setIfInBounds_toArray, List.set_cons_zero, List.set_cons_succ, a8, bf]
    rfl
   refine eW (i := 1) (N := some 11) (v := ?_) (a' := ?_) #[true, true, true, false, true, true, true, false, true, false, false, false, false, false, false] rfl rfl (cV HT_.out HW_.out (by kernel_rfl)) (fun _ _ _ h => h) (Or.inl ⟨by rfl, ?_⟩) hHeld ?_ ?_
   rotate_left
   ·rintro w' ⟨s0, s1⟩
    go_simp
    with_reducible rfl
   rotate_left
   ·simp only [Act.put, List.setIfInBounds_toArray, List.set_cons_zero, List.set_cons_succ, a8, bf]
    rfl
   refine eW (i := 3) (N := some 13) (v := ?_) (a' := ?_) #[true, true, true, true, true, true, true, false, true, false, false, false, false, false, false] rfl rfl (cV HT_.out HW_.out (by kernel_rfl)) (fun _ _ _ h => h) (Or.inl ⟨by rfl, ?_⟩) hHeld ?_ ?_
   rotate_left
   ·rintro w' ⟨s0, s1⟩
    go_simp
    with_reducible rfl
   rotate_left
   ·simp only [Act.put, List.setIfInBounds_toArray, List.set_cons_zero, List.set_cons_succ, a8, bf]
    rfl
   refine eW (i := 9) (N := some 19) (v := ?_) (a' := ?_) #[true, true, true, true, true, true, true, false, true, true, false, false, false, false, false] rfl rfl (cV HT_.out HW_.out (by kernel_rfl)) (fun _ _ _ h => h) (Or.inl ⟨by rfl, ?_⟩) hHeld ?_ ?_
   rotate_left
   ·rintro w' ⟨s0, s1⟩
    go_simp
    with_reducible rfl
   rotate_left
   ·simp only [Act.put, List.setIfInBounds_toArray, List.set_cons_zero, List.set_cons_succ, a8, bf]
    rfl
   refine jv (i := 7) (N := some 17) #[true, true, true, true, true, true, true, true, true, true, false, false, false, false, false] rfl rfl (eO HT_.out (by kernel_rfl)) (by decide) (fun K hK => ?_)
   refine gD Tryz.func70 (by kernel_rfl) rfl #[.int .u64 (Go.bits .and .u64 a1 (IntKind.u64.wrap ((ji5) - 1)))] (by rfl) rfl rfl (by (try simp only [List.map_toArray, List.map_cons, List.map_nil]); first | done | (simp only [hji5]; rfl) | rfl | (simp only [List.length_drop, List.length_take]; rfl)) ?_
   with_reducible refine (ba.calls k (Go.bits .and .u64 a1 (IntKind.u64.wrap ((ji5) - 1))) t149 _ ?side1 A6.out).mono ?_
   (case side1 => exact ej.below HT.out (by repeat (first | (with_reducible first | exact HB.out | apply ag | apply af | apply ah | refine ak ?_ kW.out | refine ak ?_ nw.out) | exact HB.out)))
   rintro e w17 ⟨v150, rfl, ho0, hb⟩
   refine ⟨_, rfl, ?_⟩
   have n0_ := aa.mk (Kd.cW ho0 (aq (by repeat (first | (with_reducible first | exact HB.out | apply ag | apply af | apply ah | refine ak ?_ kW.out | refine ak ?_ nw.out) | exact HB.out))))
   have n1_ := aa.mk (aD (g := jC) (o := .cells #[.int .i64 a0_0, .int .i64 a0_1] 61 (0, 0)) (by (with_reducible repeat (first | refine al ?_ _ | refine ao ?_ | refine an ?_ _)); exact eG.out) hb)
   have n2_ := aa.mk (aD (g := fe) (o := .cells #[.int .i64 0, .int .i64 0, .slice none 0 0, .slice none 0 0] 28 (0, 0)) (by (with_reducible repeat (first | refine al ?_ _ | refine ao ?_ | refine an ?_ _)); exact fE.out) hb)
   have n3_ := aa.mk (ar (by repeat (first | (with_reducible first | exact HB.out | apply ag | apply af | apply ah | refine ak ?_ kW.out | refine ak ?_ nw.out) | exact HB.out)) hb)
   clear eG
   clear fE
   clear HB
   have nt := n0_
   have eG := n1_
   have fE := n2_
   have HB := n3_
   clear n0_ n1_ n2_ n3_
   (try clear hb)
   (try clear hb2)
   (try clear hk)
   (try clear hi)
   (try clear ho0)
   refine hK.out _ _ ⟨(ai eG.out 0).trans rfl, (ai eG.out 1).trans rfl⟩ (fun hHeld => ?_)
   clear hK K
   refine gC (a' := ?_) ?_ ?_
   rotate_left
   ·show Act.put _ (some 17) _ = _
    simp only [Act.put, List.setIfInBounds_toArray, List.set_cons_zero, List.set_cons_succ, a8, bf]
    rfl
   refine jv (i := 10) (N := some 20) #[true, true, true, true, true, true, true, true, true, true, true, false, false, false, false] rfl rfl (eO HT_.out (by kernel_rfl)) (by decide) (fun K hK => ?_)
   refine gD Tryz.func69 (by kernel_rfl) rfl #[.agg #[.int .i64 a0_0, .int .i64 a0_1]] (by rfl) rfl rfl (by (try simp only [List.map_toArray, List.map_cons, List.map_nil]); first | done | rfl | (simp only [List.length_drop, List.length_take]; rfl)) ?_
   with_reducible refine (bu.calls a0_0 a0_1 t152 _ A7.out).mono ?_
   rintro e w18 ⟨rfl, hb⟩
   refine ⟨_, rfl, ?_⟩
   have n0_ := aa.mk (Kd.cx (by (with_reducible repeat (first | apply Kd.aH | apply Kd.aG | apply Kd.aQ)); exact nt.out) hb)
   have n1_ := aa.mk (aD (g := jC) (o := .cells #[.int .i64 a0_0, .int .i64 a0_1] 61 (0, 0)) (by (with_reducible repeat (first | refine al ?_ _ | refine ao ?_ | refine an ?_ _)); exact eG.out) hb)
   have n2_ := aa.mk (aD (g := fe) (o := .cells #[.int .i64 0, .int .i64 0, .slice none 0 0, .slice none 0 0] 28 (0, 0)) (by (with_reducible repeat (first | refine al ?_ _ | refine ao ?_ | refine an ?_ _)); exact fE.out) hb)
   have n3_ := aa.mk (ar (by repeat (first | (with_reducible first | exact HB.out | apply ag | apply af | apply ah | refine ak ?_ kW.out | refine ak ?_ nw.out) | exact HB.out)) hb)
   clear nt
   clear eG
   clear fE
   clear HB
   have nt := n0_
   have eG := n1_
   have fE := n2_
   have HB := n3_
   clear n0_ n1_ n2_ n3_
   (try clear hb)
   (try clear hb2)
   (try clear hk)
   (try clear hi)
   refine hK.out _ _ ⟨(ai eG.out 0).trans rfl, (ai eG.out 1).trans rfl⟩ (fun hHeld => ?_)
   clear hK K
   refine gC (a' := ?_) ?_ ?_
   rotate_left
   ·show Act.put _ (some 20) _ = _
    simp only [Act.put, List.setIfInBounds_toArray, List.set_cons_zero, List.set_cons_succ, a8, bf]
    rfl
   refine bO (i := 11) (N := some 21) (v := ?_) (a' := ?_) #[true, true, true, true, true, true, true, true, true, true, true, true, false, false, false] rfl rfl (bx HT_.out (by kernel_rfl)) (fun _ _ _ h => h) (Or.inl ⟨by rfl, ?_⟩) ?_ ?_
   rotate_left
   ·intro w'
    go_simp
    with_reducible rfl
   rotate_left
   ·simp only [Act.put, List.setIfInBounds_toArray, List.set_cons_zero, List.set_cons_succ, a8, bf]
    rfl
   refine jv (i := 12) (N := some 22) #[true, true, true, true, true, true, true, true, true, true, true, true, true, false, false] rfl rfl (eO HT_.out (by kernel_rfl)) (by decide) (fun K hK => ?_)
   refine gD Tryz.func70 (by kernel_rfl) rfl #[.int .u64 ji9] (by rfl) rfl rfl (by (try simp only [List.map_toArray, List.map_cons, List.map_nil]); first | done | (simp only [hji9]; rfl) | rfl | (simp only [List.length_drop, List.length_take]; rfl)) ?_
   with_reducible refine (ba.calls k ji9 t153 _ ?side1 A10.out).mono ?_
   (case side1 => exact ej.below HT.out (by repeat (first | (with_reducible first | exact HB.out | apply ag | apply af | apply ah | refine ak ?_ kW.out | refine ak ?_ nw.out) | exact HB.out)))
   rintro e w19 ⟨v154, rfl, ho0, hb⟩
   refine ⟨_, rfl, ?_⟩
   have n0_ := aa.mk (Kd.qb (by (with_reducible repeat (first | apply Kd.aH | apply Kd.aG | apply Kd.aQ)); exact nt.out) (Kd.kO ho0) hb)
   have n1_ := aa.mk (Kd.cW (Kd.p9 ho0 (Kd.ko (by (with_reducible repeat (first | apply Kd.aH | apply Kd.aG | apply Kd.aQ)); exact nt.out))) (aq (by repeat (first | (with_reducible first | exact HB.out | apply ag | apply af | apply ah | refine ak ?_ kW.out | refine ak ?_ nw.out) | exact HB.out))))
   have n2_ := aa.mk (aD (g := jC) (o := .cells #[.int .i64 a0_0, .int .i64 a0_1] 61 (0, 0)) (by (with_reducible repeat (first | refine al ?_ _ | refine ao ?_ | refine an ?_ _)); exact eG.out) hb)
   have n3_ := aa.mk (aD (g := fe) (o := .cells #[.int .i64 0, .int .i64 0, .slice none 0 0, .slice none 0 0] 28 (0, 0)) (by (with_reducible repeat (first | refine al ?_ _ | refine ao ?_ | refine an ?_ _)); exact fE.out) hb)
   have n4_ := aa.mk (ar (by repeat (first | (with_reducible first | exact HB.out | apply ag | apply af | apply ah | refine ak ?_ kW.out | refine ak ?_ nw.out) | exact HB.out)) hb)
   clear nt
   clear eG
   clear fE
   clear HB
   have nt := n0_
   have C6 := n1_
   have eG := n2_
   have fE := n3_
   have HB := n4_
   clear n0_ n1_ n2_ n3_ n4_
   (try clear hb)
   (try clear hb2)
   (try clear hk)
   (try clear hi)
   (try clear ho0)
   obtain ⟨Ek, zv, ub⟩ := Kd.bE C6.out
   (first | subst ub | (injection ub with f1_ f2_ f3_; have f4_ := f1_.symm; have f5_ := f3_.symm; clear f1_ f2_ f3_; subst f4_; subst f5_))
   obtain ⟨yu, ue, yj⟩ := Kd.bE nt.out
   (first | subst yj | (injection yj with f1_ f2_ f3_; have f4_ := f1_.symm; have f5_ := f3_.symm; clear f1_ f2_ f3_; subst f4_; subst f5_))
   refine hK.out _ _ ⟨(ai eG.out 0).trans rfl, (ai eG.out 1).trans rfl⟩ (fun hHeld => ?_)
   clear hK K
   refine gC (a' := ?_) ?_ ?_
   rotate_left
   ·show Act.put _ (some 22) _ = _
    simp only [Act.put, List.setIfInBounds_toArray, List.set_cons_zero, List.set_cons_succ, a8, bf]
    rfl
   refine bO (i := 13) (N := some 23) (v := ?_) (a' := ?_) #[true, true, true, true, true, true, true, true, true, true, true, true, true, true, false] rfl rfl (bx HT_.out (by kernel_rfl)) (fun _ _ _ h => h) (Or.inl ⟨by rfl, ?_⟩) ?_ ?_
   rotate_left
   ·intro w'
    go_simp
    with_reducible rfl
   rotate_left
   ·simp only [Act.put, List.setIfInBounds_toArray, List.set_cons_zero, List.set_cons_succ, a8, bf]
    rfl
   refine jv (i := 14) (N := none) #[true, true, true, true, true, true, true, true, true, true, true, true, true, true, true] rfl rfl (eO HT_.out (by kernel_rfl)) (by decide) (fun K hK => ?_)
   have hs22 : w19.cell? ⟨fe, 0, none⟩ = some (.int .i64 0) := (ai fE.out 0).trans rfl
   have hfs22 := aj fE.out 0
   have Bl := eN.out
   have Bp := kp.out
   have hs23 : w19.cell? ⟨fe, 1, none⟩ = some (.int .i64 0) := (ai fE.out 1).trans rfl
   have hfs23 := aj fE.out 1
   have Gz := eN.out
   have GD := kp.out
   have hs24 : w19.cell? ⟨fe, 2, none⟩ = some (.slice none 0 0) := (ai fE.out 2).trans rfl
   have hfs24 := aj fE.out 2
   have Bk := eN.out
   have Bo := kp.out
   have hs25 : w19.cell? ⟨fe, 3, none⟩ = some (.slice none 0 0) := (ai fE.out 3).trans rfl
   have hfs25 := aj fE.out 3
   have Gy := eN.out
   have GC := kp.out
   refine CQ (w1 := ?_) (by rfl) rfl ?_ ?_
   rotate_left
   ·go_simp
    rfl
   refine hK.out _ _ ⟨((cell_far (p := ⟨fe, _, none⟩) eN.out _).trans (((cell_far (p := ⟨fe, _, none⟩) eN.out _).trans (((cell_far (p := ⟨fe, _, none⟩) eN.out _).trans (((cell_far (p := ⟨fe, _, none⟩) eN.out _).trans (hHeld.1)))))))), ((cell_far (p := ⟨fe, _, none⟩) eN.out _).trans (((cell_far (p := ⟨fe, _, none⟩) eN.out _).trans (((cell_far (p := ⟨fe, _, none⟩) eN.out _).trans (((cell_far (p := ⟨fe, _, none⟩) eN.out _).trans (hHeld.2))))))))⟩ (fun hHeld => ?_)
   clear hK K
   refine mq (iU HT_.out (by kernel_rfl)) ?_
   try go_wp2
   refine bodyPost_ret (results_cell_row rfl _ _ fe 28 #[.int .i64 a0_0, .int .i64 a0_1, .slice yu t149.length ue, .slice Ek t153.length zv] (0, 0) _ rfl (by (with_reducible repeat (first | refine al ?_ _ | refine ao ?_ | refine an ?_ _)); refine bF (cs := #[.int .i64 a0_0, .int .i64 a0_1, .slice yu t149.length ue, .slice none 0 0]) ?_ 3 _ rfl; (with_reducible repeat (first | refine al ?_ _ | refine ao ?_ | refine an ?_ _)); refine bF (cs := #[.int .i64 a0_0, .int .i64 a0_1, .slice none 0 0, .slice none 0 0]) ?_ 2 _ rfl; (with_reducible repeat (first | refine al ?_ _ | refine ao ?_ | refine an ?_ _)); refine bF (cs := #[.int .i64 a0_0, .int .i64 0, .slice none 0 0, .slice none 0 0]) ?_ 1 _ rfl; (with_reducible repeat (first | refine al ?_ _ | refine ao ?_ | refine an ?_ _)); refine bF (cs := #[.int .i64 0, .int .i64 0, .slice none 0 0, .slice none 0 0]) ?_ 0 _ rfl; (with_reducible repeat (first | refine al ?_ _ | refine ao ?_ | refine an ?_ _)); exact fE.out) Tryz.underlying28 rfl (by kernel_rfl)) rfl ?_
   exact ⟨_, _, by first | rfl | (simp [av, au] <;> rfl) | (simp only [← hji5, ← hji9]; first | rfl | (simp [av, au] <;> rfl)) | (simp [*, av, au] <;> rfl), by (with_reducible repeat (first | apply Kd.aH | apply Kd.aG | apply Kd.aQ)); exact Kd.bV (Kd.bp (p := ⟨fe, 3, none⟩) (Kd.bp (p := ⟨fe, 2, none⟩) (Kd.bp (p := ⟨fe, 1, none⟩) (Kd.bp (p := ⟨fe, 0, none⟩) (Kd.cU nt.out fE.out (by decide)) (fun _ hk => hk.2) (.int .i64 a0_0)) (fun _ hk => hk.2) (.int .i64 a0_1)) (fun _ hk => hk.2) (.slice yu t149.length ue)) (fun _ hk => hk.2) (.slice Ek t153.length zv)) (fun _ hk => hk.1.2), by (with_reducible repeat (first | apply Kd.aH | apply Kd.aG | apply Kd.aQ)); exact Kd.bV (Kd.bp (p := ⟨fe, 3, none⟩) (Kd.bp (p := ⟨fe, 2, none⟩) (Kd.bp (p := ⟨fe, 1, none⟩) (Kd.bp (p := ⟨fe, 0, none⟩) (Kd.cU C6.out fE.out (by decide)) (fun _ hk => hk.2) (.int .i64 a0_0)) (fun _ hk => hk.2) (.int .i64 a0_1)) (fun _ hk => hk.2) (.slice yu t149.length ue)) (fun _ hk => hk.2) (.slice Ek t153.length zv)) (fun _ hk => hk.1.2), by repeat (first | (with_reducible first | exact HB.out | apply ag | apply af | apply ah | refine ak ?_ kW.out | refine ak ?_ nw.out) | exact HB.out)⟩
  ·rw [if_neg c8] at H
   exact absurd H (by simp)
 ·rw [if_neg c4] at H
  exact absurd H (by simp)
end Go.Proofs.YtmjlmloomkodpaaGreatDoor.PA
namespace Go.Proofs.YtmjlmloomkodpaaGreatDoor.PA
open Go.RowKit Go.Proofs.ae.aw Go.Proofs.ae.aJ Go.Proofs.ae.aN
attribute [local go_sem] bo bm bC bB a6 aZ bn bj
set_option linter.unusedVariables false
set_option linter.unusedSimpArgs false
section
open Go.Sort Go.Shelf Go.Proofs
theorem rj {enc : Nat → List Value} {k : Nat} {W : World} {b m : Nat} {dk : Array Nat} {os : Array Obj} {i : Nat} (hi : i < W.heap.size) (hne : i ≠ b) : (sortWorldK enc k W b 0 m dk os).heap[i]? = W.heap[i]? := by
 unfold sortWorldK
 rw [heap_grow_old _ _ (by simpa [putRowK, Sort.ahead] using hi)]
 simp [putRowK, putRow, mapBlock, Sort.ahead, Array.getElem?_modify, Ne.symm hne]
theorem Am {enc : Nat → List Value} {k : Nat} {W : World} {b m : Nat} {dk : Array Nat} {os : Array Obj} {cur : Array Value} {e : TypeId} (hb : W.heap[b]? = some (.cells cur e (0, 0))) : (sortWorldK enc k W b 0 m dk os).heap[b]? = some (.cells (putCells id 0 (flatK enc k dk) cur) e (0, 0)) := by
 have hlt := a7 hb
 unfold sortWorldK
 rw [heap_grow_old _ _ (by simpa [putRowK, Sort.ahead] using hlt)]
 simp [putRowK, putRow, mapBlock, Sort.ahead, Array.getElem?_modify, hb, onCells]
theorem yH {enc : Nat → List Value} {k : Nat} {W : World} {b m : Nat} {dk : Array Nat} {os : Array Obj} : W.heap.size ≤ (sortWorldK enc k W b 0 m dk os).heap.size := by
 unfold sortWorldK
 simp [grow, putRowK, Sort.ahead]
theorem xF {enc : Nat → List Value} {k : Nat} {W : World} {b m base : Nat} {w0 : World} {dk : Array Nat} {os : Array Obj} (h : Below base w0 W) (hb : base ≤ b) (hs : base ≤ W.heap.size) : Below base w0 (sortWorldK enc k W b 0 m dk os) :=
 ⟨h.os, h.tape, h.output, Nat.le_trans h.size yH, fun i hi => (rj (by omega) (by omega)).trans (h.block i hi)⟩
def chunk (inner : List Value) (k j : Nat) : List Value := (inner.drop (j * k)).take k
theorem jn {inner : List Value} {k n j : Nat} (h : inner.length = n * k) (hj : j < n) : (chunk inner k j).length = k := by
 have : (j + 1) * k ≤ n * k := Nat.mul_le_mul_right _ hj
 rw [Nat.add_mul] at this
 simp [chunk, h]; omega
def il (inner : List Value) (k n : Nat) (x : Nat) : List Value := chunk inner k (if x < n then x else 0)
theorem sM {inner : List Value} {k n : Nat} (h : inner.length = n * k) (hn : 0 < n) (x : Nat) : (il inner k n x).length = k := by
 unfold il
 split
 ·exact jn h ‹_›
 ·exact jn h hn
theorem yn {inner : List Value} {k n j t : Nat} (h : inner.length = n * k) (hj : j < n) (ht : t < k) : (chunk inner k j)[t]! = inner[j * k + t]! := by
 have h1 := jn h hj
 have : (j + 1) * k ≤ n * k := Nat.mul_le_mul_right _ hj
 rw [Nat.add_mul] at this
 rw [getElem!_pos _ t (by omega), getElem!_pos inner (j * k + t) (by omega)]
 simp [chunk]
theorem rL {W : World} {b k n : Nat} {cur : Array Value} {e : TypeId} {inner : List Value} (hb : W.heap[b]? = some (.cells cur e (0, 0))) (hcur : cur.toList.take (n * k) = inner) (hlen : inner.length = n * k) (hn : 0 < n) (hk : 0 < k) :
  HoldsK (il inner k n) k W b 0 (Array.range n) := by
 intro t ht
 have ht' : t < n * k := by simpa using ht
 have hc : n * k ≤ cur.size := by
  have : (cur.toList.take (n * k)).length = n * k := by rw [hcur, hlen]
  simp at this; omega
 refine ⟨?_, by rw [Nat.zero_add]; exact aj hb t⟩
 rw [Nat.zero_add, (ai hb t), get_flatK _ _ _ t (by simpa using ht')]
 have hq : t / k < n := Nat.div_lt_of_lt_mul (by rw [Nat.mul_comm]; exact ht')
 have hr : t % k < k := Nat.mod_lt _ hk
 have e1 : (Array.range n)[t / k]! = t / k := by rw [getElem!_pos _ _ (by simpa using hq)]; simp
 rw [e1, il, if_pos hq, yn hlen hq hr]
 have e2 : t / k * k + t % k = t := by rw [Nat.mul_comm]; exact Nat.div_add_mod t k
 rw [e2, getElem!_pos inner t (by omega)]
 have : inner[t]? = cur[t]? := by
  rw [← hcur, List.getElem?_take]
  simp [ht']
 rw [← this]
 simp [show t < inner.length by omega]
end
section
open Go.Sort Go.Shelf Go.Proofs
theorem EW {α : Type} {d : Kd α} {e : TypeId} {W : World} {base b cap n m : Nat} {figs : List α} {inner : List Value} {cur : Array Value} {dk : Array Nat} {os : Array Obj} (z : α) (hn : n = figs.length)
  (hb : W.heap[b]? = some (.cells cur e (0, 0))) (hbase : base ≤ b) (hnc : n ≤ cap) (hcm : cap ≤ maxLen) (hcs : cur.size = cap * d.sz)
  (hlen : inner.length = n * d.sz) (hk : 0 < d.sz) (hreps : gu (d.M W base (fun k => True ∧ some k ≠ (Value.slice (some ⟨b, 0, none⟩) n cap).ownBlock)) d.sz figs inner) (hdk : dk.size = n) (hdn : ∀ i, i < n → dk[i]! < n) :
  d.R e (sortWorldK (il inner d.sz n) d.sz W b 0 m dk os) base (fun _ => True) (.slice (some ⟨b, 0, none⟩) n cap) (dk.toList.map fun i => figs.getD i z) := by
 have hfl : (flatK (il inner d.sz n) d.sz dk).size = n * d.sz := by simp [hdk]
 have hle : n * d.sz ≤ cur.size := by rw [hcs]; exact Nat.mul_le_mul_right _ hnc
 refine ⟨fun _ _ => trivial, (flatK (il inner d.sz n) d.sz dk).toList, ⟨by simp [hdk], .inr ⟨b, cap, _, by simp [hdk], hbase, Am hb, by simpa [hdk] using hnc, hcm, by simp [putCells, hcs], ?_⟩⟩, ?_⟩
 ·have hsz : (dk.toList.map fun i => figs.getD i z).length = n := by simp [hdk]
  rw [hsz]
  apply List.ext_getElem?
  intro t
  rw [List.getElem?_take]
  by_cases ht : t < n * d.sz
  ·rw [if_pos ht]
   have h1 : t < cur.size := by omega
   simp only [putCells, Array.getElem?_toList, Array.getElem?_mapIdx]
   rw [show cur[t]? = some cur[t] from Array.getElem?_eq_getElem h1, Option.map_some, if_pos ⟨Nat.zero_le _, by omega⟩]
   rw [Array.getElem?_eq_getElem (by omega : t < (flatK (il inner d.sz n) d.sz dk).size), Nat.sub_zero, getElem!_pos _ t (by omega)]
   rfl
  ·rw [if_neg ht, Array.getElem?_toList, Array.getElem?_eq_none (by omega)]
 ·refine ⟨by simp [hdk], fun j q hq => ?_⟩
  have hj : j < n := by
   have := (List.getElem?_eq_some_iff.1 hq).1
   simpa [hdk] using this
  have hdj := hdn j hj
  have hq' : q = figs.getD dk[j]! z := by
   rw [List.getElem?_map, Array.getElem?_toList, Array.getElem?_eq_getElem (by omega : j < dk.size), Option.map_some] at hq
   rw [getElem!_pos dk j (by omega)]
   exact (Option.some.inj hq).symm
  have hfq : figs[dk[j]!]? = some q := by
   rw [hq', List.getD_eq_getElem?_getD, List.getElem?_eq_getElem (by omega)]
   simp
  have hM := hreps.2 _ _ hfq
  have hch : ((flatK (il inner d.sz n) d.sz dk).toList.drop (j * d.sz)).take d.sz = chunk inner d.sz dk[j]! := by
   have hl := jn hlen hdj
   have h2 : (j + 1) * d.sz ≤ n * d.sz := Nat.mul_le_mul_right _ hj
   rw [Nat.add_mul] at h2
   apply List.ext_getElem?
   intro t
   rw [List.getElem?_take]
   by_cases ht : t < d.sz
   ·have h3 : j * d.sz + t < (flatK (il inner d.sz n) d.sz dk).size := by omega
    rw [if_pos ht, List.getElem?_drop, Array.getElem?_toList, Array.getElem?_eq_getElem h3, List.getElem?_eq_getElem (show t < (chunk inner d.sz dk[j]!).length by omega)]
    have h4 := get_flatK (il inner d.sz n) d.sz dk (j * d.sz + t) (by rw [hdk]; omega)
    rw [getElem!_pos (flatK (il inner d.sz n) d.sz dk) _ h3] at h4
    have e1 : (j * d.sz + t) / d.sz = j := by
     rw [Nat.mul_comm j, Nat.mul_add_div hk, Nat.div_eq_of_lt ht, Nat.add_zero]
    have e2 : (j * d.sz + t) % d.sz = t := by
     rw [Nat.mul_comm j, Nat.mul_add_mod, Nat.mod_eq_of_lt ht]
    rw [h4, e1, e2, il, if_pos hdj, getElem!_pos (chunk inner d.sz dk[j]!) t (by omega)]
   ·rw [if_neg ht, List.getElem?_eq_none (by omega)]
  rw [hch]
  have hB := d.M_bound hM
  refine d.M_mono (fun k hk2 => ?_) (d.M_move (fun k hk2 => ?_) hB)
  ·exact ⟨trivial, hk2.1.2⟩
  ·refine rj hk2.2.2.1 (fun e2 => hk2.1.2 ?_)
   rw [e2]; rfl
end
section
open Go.Sort Go.Shelf Go.Proofs
theorem xe : ∀ a : List UInt8, Go.Lib.compareBytes a a = 0
 | [] => rfl
 | x :: a => by
  have h : ¬ x < x := UInt8.lt_irrefl x
  rw [Go.Lib.compareBytes, if_neg h, if_neg h]; exact xe a
theorem l6 : ∀ a b : List UInt8, Go.Lib.compareBytes b a = - Go.Lib.compareBytes a b
 | [], [] => rfl
 | [], _ :: _ => rfl
 | _ :: _, [] => rfl
 | x :: a, y :: b => by
  rw [Go.Lib.compareBytes, Go.Lib.compareBytes]
  by_cases h1 : x < y
  ·have h2 : ¬ y < x := fun h => UInt8.lt_irrefl _ (UInt8.lt_trans h1 h)
   rw [if_neg h2, if_pos h1, if_pos h1]; rfl
  ·rw [if_neg h1, if_neg h1]
   by_cases h2 : y < x
   ·rw [if_pos h2, if_pos h2]
   ·rw [if_neg h2, if_neg h2]; exact l6 a b
theorem xf : ∀ a b c : List UInt8, Go.Lib.compareBytes a b ≤ 0 → Go.Lib.compareBytes b c ≤ 0 → Go.Lib.compareBytes a c ≤ 0
 | [], _, [], _, _ => by simp [Go.Lib.compareBytes]
 | [], _, _ :: _, _, _ => by simp [Go.Lib.compareBytes]
 | _ :: _, [], _, h, _ => by simp [Go.Lib.compareBytes] at h
 | _ :: _, _ :: _, [], _, h => by simp [Go.Lib.compareBytes] at h
 | x :: a, y :: b, z :: c, h1, h2 => by
  rw [Go.Lib.compareBytes] at h1 h2 ⊢
  simp only [UInt8.lt_iff_toNat_lt] at h1 h2 ⊢
  split at h1
  ·split at h2
   ·rw [if_pos (by omega)]; omega
   ·split at h2
    ·omega
    ·rw [if_pos (by omega)]; omega
  ·split at h1
   ·omega
   ·split at h2
    ·rw [if_pos (by omega)]; omega
    ·split at h2
     ·omega
     ·rw [if_neg (by omega), if_neg (by omega)]; exact xf a b c h1 h2
theorem yG {α : Type} (t : α → List UInt8) : SWO (ltOf fun x y => Go.Lib.compareBytes (t x) (t y)) := by
 refine ⟨fun x => ?_, fun x y z h1 h2 => ?_, fun x y z h1 h2 => ?_⟩
 ·simp [ltOf, xe]
 ·simp only [ltOf, decide_eq_true_eq] at h1 h2 ⊢
  have h3 := xf _ _ _ (Int.le_of_lt h1) (Int.le_of_lt h2)
  rcases Int.lt_or_eq_of_le h3 with h | h
  ·exact h
  ·exfalso
   have h4 := l6 (t x) (t z)
   have h5 := xf (t z) (t x) (t y) (by omega) (Int.le_of_lt h1)
   have h6 := l6 (t y) (t z)
   omega
 ·simp only [ltOf, decide_eq_false_iff_not, Int.not_lt] at h1 h2 ⊢
  have e1 := l6 (t x) (t y)
  have e2 := l6 (t y) (t z)
  have e3 := l6 (t x) (t z)
  have := xf (t z) (t y) (t x) (by omega) (by omega)
  omega
def tY (kk : Nat) (q : S28) : ByteArray := (cY.f kk q.f0 q.f1 q.f2 q.f3).getD ⟨#[]⟩
def gA (figs : List (S28)) (x : Nat) : S28 := figs.getD (if x < figs.length then x else 0) z28
def mJ (kk : Nat) (figs : List (S28)) (x y : Nat) : Int := Go.Lib.compareBytes (tY kk (gA figs x)).data.toList (tY kk (gA figs y)).data.toList
def gm (kk : Nat) (figs : List (S28)) : List (S28) := if figs.length = 0 then [] else (pdq (ltOf (mJ kk figs)) (Array.range figs.length) 0 figs.length (Go.Lib.bitLen figs.length) true true).toList.map fun i => figs.getD i z28
set_option maxHeartbeats 4000000 in
set_option maxRecDepth 100000 in
theorem sK (kk : Nat) (figs : List (S28)) {W : World} {base b cap : Nat} {inner : List Value} (hn : 0 < figs.length) (hbW : b < W.heap.size) (hlen : inner.length = figs.length * k28.sz)
  (hreps : gu (k28.M W base (fun k => True ∧ some k ≠ (Value.slice (some ⟨b, 0, none⟩) figs.length cap).ownBlock)) k28.sz figs inner) (htx : ∀ q, q ∈ figs → ∃ t, cY.f kk q.f0 q.f1 q.f2 q.f3 = some t) :
  CmpLays Tryz.prog 80 #[] (il inner k28.sz figs.length) k28.sz (mJ kk figs) b 0 figs.length W := by
 intro m os dk hdk x y
 have hK : ∀ x : Nat, ∃ A2 c2 A3 c3, il inner k28.sz figs.length x = [.int .i64 (gA figs x).f0, .int .i64 (gA figs x).f1, .slice A2 (gA figs x).f2.length c2, .slice A3 (gA figs x).f3.length c3] ∧ (gA figs x).f2.length ≤ c2 ∧ (Kd.int .i64).C (sortWorldK (il inner k28.sz figs.length) k28.sz W b 0 m dk os) A2 (gA figs x).f2.length (gA figs x).f2 ∧ (gA figs x).f3.length ≤ c3 ∧ (Kd.int .i64).C (sortWorldK (il inner k28.sz figs.length) k28.sz W b 0 m dk os) A3 (gA figs x).f3.length (gA figs x).f3 := by
  intro x
  have hj : (if x < figs.length then x else 0) < figs.length := by split <;> omega
  have hfq : figs[if x < figs.length then x else 0]? = some (gA figs x) := by
   rw [gA, List.getD_eq_getElem?_getD, List.getElem?_eq_getElem hj]; rfl
  have hM := hreps.2 _ _ hfq
  have hM2 := k28.M_move (w1 := sortWorldK (il inner k28.sz figs.length) k28.sz W b 0 m dk os) (fun k hk2 => rj hk2.2.2.1 (fun e2 => hk2.1.2 (by rw [e2]; rfl))) (k28.M_bound hM)
  exact tJ (k28.K_of_M hM2)
 have hT : ∀ x : Nat, cY.f kk (gA figs x).f0 (gA figs x).f1 (gA figs x).f2 (gA figs x).f3 = some (tY kk (gA figs x)) := by
  intro x
  have hj : (if x < figs.length then x else 0) < figs.length := by split <;> omega
  have hmem : gA figs x ∈ figs := by
   rw [gA, List.getD_eq_getElem?_getD, List.getElem?_eq_getElem hj]; exact List.getElem_mem hj
  obtain ⟨t, ht⟩ := htx _ hmem
  rw [tY, ht]; rfl
 obtain ⟨A2, c2, A3, c3, ex, l2, g2, l3, g3⟩ := hK x
 obtain ⟨B2, d2, B3, d3, ey, m2, h2, m3, h3⟩ := hK y
 have hc := fu.calls kk _ _ A2 c2 _ A3 c3 _ _ _ B2 d2 _ B3 d3 _ (mJ kk figs x y) _ g2 l2 g3 l3 h2 m2 h3 m3 (by
  rw [fu.f, hT x, hT y]; rfl)
 rw [ex, ey]
 refine (Go.Proofs.YtmjlmloomkodpaaGreatDoor.Dr.ug (hc.mono fun e w' h => ⟨⟨_, h.1⟩, h⟩)).mono fun e w' h => ⟨h.1.1, Go.Proofs.YtmjlmloomkodpaaGreatDoor.Dr.qy h.1.2 h.2⟩
end
section
open Go.Sort Go.Shelf Go.Proofs
def j8 (kk : Nat) (figs : List (S28)) : Array Nat := pdq (ltOf (mJ kk figs)) (Array.range figs.length) 0 figs.length (Go.Lib.bitLen figs.length) true true
theorem pL (kk : Nat) (figs : List (S28)) : SWO (ltOf (mJ kk figs)) := yG fun x => (tY kk (gA figs x)).data.toList
theorem oc (kk : Nat) (figs : List (S28)) : (j8 kk figs).size = figs.length ∧ (j8 kk figs).toList.Perm (List.range figs.length) ∧ ∀ i, i < figs.length → (j8 kk figs)[i]! < figs.length := by
 have h := pdq_sorts (ltOf (mJ kk figs)) (pL kk figs) (Array.range figs.length) 0 figs.length (Go.Lib.bitLen figs.length) true true (Nat.zero_le _) (by simp) (Or.inl rfl)
 obtain ⟨hs, _, hp⟩ := h.1
 have hs' : (j8 kk figs).size = figs.length := by rw [j8, hs]; simp
 have hp' : (j8 kk figs).toList.Perm (List.range figs.length) := by
  have e1 : (j8 kk figs).extract 0 figs.length = j8 kk figs := by rw [← hs']; simp
  have e2 : (Array.range figs.length).extract 0 figs.length = Array.range figs.length := by
   have : (Array.range figs.length).size = figs.length := by simp
   conv => lhs; arg 3; rw [← this]
   simp
  rw [j8] at e1
  rw [e1, e2] at hp
  rw [j8]
  simpa using hp
 refine ⟨hs', hp', fun i hi => ?_⟩
 have hm : (j8 kk figs)[i]! ∈ (j8 kk figs).toList := by
  rw [getElem!_pos _ i (by omega)]
  simp
 simpa using hp'.mem_iff.1 hm
theorem pE {α : Type} (l : List α) (z : α) : (List.range l.length).map (fun i => l.getD i z) = l := by
 apply List.ext_getElem
 ·simp
 ·intro i h1 h2
  simp [List.getD_eq_getElem?_getD, h2]
theorem qn (kk : Nat) (figs : List (S28)) : (gm kk figs).Perm figs := by
 unfold gm
 split
 ·rename_i h
  rw [List.length_eq_zero_iff.1 h]
 ·have h := (oc kk figs).2.1.map fun i => figs.getD i z28
  rw [pE] at h
  exact h
theorem ES {α : Type} {d : Kd α} {e : TypeId} {w' : World} {base : Nat} {v : Value} {figs : List α} {f : Nat → Nat} {dk : Array Nat} (z : α) (hdk : dk.size = figs.length) (hdn : ∀ i, i < figs.length → dk[i]! < figs.length) (hnd : dk.toList.Nodup)
  (h : (Kd.tag f d).R e w' base (fun _ => True) v (dk.toList.map fun i => figs.zipIdx.getD i (z, 0))) : Kd.S d e w' base (fun _ => True) v (dk.toList.map fun i => figs.getD i z) := by
 obtain ⟨h0, inner, ho, hr⟩ := h
 refine ⟨fun k => dk.toList.idxOf (f k), h0, inner, by have h := ho; simp only [List.length_map, List.length_zipIdx] at h ⊢; exact h, by have h := hr.1; simp only [List.length_map, List.length_zipIdx] at h ⊢; exact h, fun j q hq => ?_⟩
 obtain ⟨p, i⟩ := q
 rw [List.getElem?_zipIdx] at hq
 obtain ⟨p', hp', e1⟩ := Option.map_eq_some_iff.1 hq
 obtain ⟨rfl, rfl⟩ := Prod.mk.inj e1
 rw [List.getElem?_map] at hp'
 obtain ⟨ix, hix, rfl⟩ := Option.map_eq_some_iff.1 hp'
 have hj : j < dk.size := by
  have := (List.getElem?_eq_some_iff.1 hix).1
  simpa using this
 have hixj : dk[j]! = ix := by
  rw [getElem!_pos dk j hj]
  rw [Array.getElem?_toList, Array.getElem?_eq_getElem hj] at hix
  exact Option.some.inj hix
 have hlt : ix < figs.length := by rw [← hixj]; exact hdn j (by omega)
 have hz : (dk.toList.map fun i => figs.zipIdx.getD i (z, 0))[j]? = some (figs.getD ix z, ix) := by
  rw [List.getElem?_map, hix, Option.map_some, List.getD_eq_getElem?_getD, List.getElem?_zipIdx, List.getElem?_eq_getElem hlt, List.getD_eq_getElem?_getD, List.getElem?_eq_getElem hlt]
  simp
 have hM := hr.2 j _ hz
 refine d.M_mono (fun k hk => ⟨hk.1, ?_⟩) hM
 have hfk : f k = ix := hk.2
 show dk.toList.idxOf (f k) = 0 + j
 rw [hfk, Nat.zero_add]
 have hjl : j < dk.toList.length := by simpa using hj
 have hge : dk.toList[j] = ix := by
  have := hix
  rw [List.getElem?_eq_getElem hjl] at this
  exact Option.some.inj this
 rw [← hge]
 exact hnd.idxOf_getElem j hjl
set_option maxHeartbeats 4000000 in
set_option maxRecDepth 100000 in
theorem pq (kk : Nat) (figs : List (S28)) {w0 W : World} {base : Nat} {A : Option Addr} {c : Nat} (hO : Kd.S k28 28 W base (fun _ => True) (.slice A figs.length c) figs) (hB : Below base w0 W) (hbs : base ≤ W.heap.size) (hsz : figs.length < 4611686018427387904) (htx : ∀ q, q ∈ figs → ∃ t, cY.f kk q.f0 q.f1 q.f2 q.f3 = some t) :
  Calls Tryz.prog 113 #[.slice A figs.length c, .func (.func 80) #[] #[]] W fun e w' => e = .returned (.tuple #[]) ∧ Kd.S k28 28 w' base (fun _ => True) (.slice A figs.length c) (gm kk figs) ∧ Below base w0 w' := by
 by_cases hn : figs.length = 0
 ·have h := AnyF.slices_SortFunc_none { Tryz.vu with } A c (.func (.func 80) #[] #[]) W
  rw [hn] at hO ⊢
  refine Calls.mono h ?_
  rintro e w' ⟨he, hw⟩
  refine ⟨he, ?_, by rw [hw]; exact hB⟩
  have e0 : figs = [] := List.length_eq_zero_iff.1 hn
  subst e0
  rw [hw]
  exact hO
 ·have hn' : 0 < figs.length := by omega
  obtain ⟨f, h00, inner, CT, hr0⟩ := hO
  rw [List.length_zipIdx] at CT
  obtain ⟨hlen, hown⟩ := CT
  have hlen : inner.length = figs.length * k28.sz := hlen
  have hreps : gu (k28.M W base (fun k => True ∧ some k ≠ (Value.slice A figs.length c).ownBlock)) k28.sz figs inner := ⟨hlen, fun j p hj => k28.M_mono (fun _ hk => hk.1) (hr0.2 j (p, j) (Kd.yw hj))⟩
  rcases hown with ⟨_, h0⟩ | ⟨b, cap, cur, hv, hb1, hbk, hnc, hcm, hcs, htk⟩
  ·exact absurd h0 hn
  simp only [Value.slice.injEq] at hv
  obtain ⟨rfl, _, rfl⟩ := hv
  have h := AnyQ.slices_SortFunc_eq Tryz.vu k28.sz Tryz.isAgg28 Tryz.sizeOf28 (il inner k28.sz figs.length) (sM hlen hn') (fun x v hv => by
   have hj : (if x < figs.length then x else 0) < figs.length := by split <;> omega
   have hM := hreps.2 _ _ (List.getElem?_eq_getElem hj)
   exact k28.K_one (k28.K_of_M hM) v hv) (mJ kk figs) (pL kk figs) 80 #[] b 0 c (Array.range figs.length) W (fun _ _ => rfl) (by
   have := sK kk figs hn' (a7 hbk) hlen hreps htx
   simpa using this) (rL hbk htk hlen hn' (by decide)) (a7 hbk) (by simpa using hsz)
  obtain ⟨hp1, hp2, hp3⟩ := oc kk figs
  have e1 : (Array.range figs.length).size = figs.length := by simp
  rw [e1] at h
  refine Calls.mono h ?_
  rintro e w' ⟨he, m, os, hw⟩
  refine ⟨he, ?_, ?_⟩
  ·rw [hw, gm, if_neg hn]
   have hnd : (j8 kk figs).toList.Nodup := (hp2.nodup_iff).2 List.nodup_range
   refine ES (f := f) z28 hp1 hp3 hnd ?_
   exact EW (d := Kd.tag f k28) (z28, 0) (by simp) hbk hb1 hnc hcm hcs hlen (show 0 < k28.sz by decide) hr0 hp1 hp3
  ·rw [hw]
   exact xF hB hb1 hbs
end
theorem Cv {α : Type} {d : Kd α} {e : Nat} {w : World} {base : Nat} {ok : Nat → Prop} {v : Value} (h : d.R e w base ok v []) : Kd.S d e w base ok v [] := by
 obtain ⟨h0, inner, ho, hr⟩ := h
 exact ⟨fun _ => 0, h0, inner, ho, hr.1, fun j p hp => by simp at hp⟩
theorem AX : (Tryz.prog.info? 28).map (fun i => (i.zero, i.size, i.bytes)) = some (some (.agg #[.int .i64 0, .int .i64 0, .slice none 0 0, .slice none 0 0]), 4, 64) := by kernel_rfl
def mI (k : Nat) (w h : Int) : List Int → Option (List (S28))
 | [] => some []
 | s :: t => (bM.f k w h s).bind fun r => (mI k w h t).bind fun rs => some ((⟨r.1, r.2.1, r.2.2.1, r.2.2.2⟩ : S28) :: rs)
def dX.f (k : Nat) (a0_0 a0_1 : Int) (l1 : List Int) : Option (List (S28)) :=
 if l1.length < 1048576 then (mI k a0_0 a0_1 l1).bind fun figs => if figs.all (fun q => (cY.f k q.f0 q.f1 q.f2 q.f3).isSome) then some (gm k figs) else none else none
theorem qA {k : Nat} {w h : Int} : ∀ {l : List Int} {r : List (S28)}, mI k w h l = some r → r.length = l.length := by
 intro l
 induction l with
 | nil => intro r hr; obtain rfl := Option.some.inj hr; rfl
 | cons s t ih =>
  intro r hr
  obtain ⟨x, _, hr⟩ := Option.bind_eq_some_iff.mp hr
  obtain ⟨rs, h2, hr⟩ := Option.bind_eq_some_iff.mp hr
  obtain rfl := Option.some.inj hr
  simp [ih h2]
theorem u2 {k : Nat} {w h : Int} : ∀ {l : List Int} {r : List (S28)}, mI k w h l = some r → ∀ j, j < l.length → ∃ r1 r2 r3 r4, bM.f k w h (rd l (j : Int)) = some (r1, r2, r3, r4) ∧ r[j]? = some (⟨r1, r2, r3, r4⟩ : S28) := by
 intro l
 induction l with
 | nil => intro r hr j hj; simp at hj
 | cons s t ih =>
  intro r hr j hj
  obtain ⟨x, hx, hr⟩ := Option.bind_eq_some_iff.mp hr
  obtain ⟨rs, h2, hr⟩ := Option.bind_eq_some_iff.mp hr
  obtain rfl := Option.some.inj hr
  cases j with
  | zero => exact ⟨x.1, x.2.1, x.2.2.1, x.2.2.2, hx, rfl⟩
  | succ j =>
   obtain ⟨r1, r2, r3, r4, e1, e2⟩ := ih h2 j (by simpa using hj)
   exact ⟨r1, r2, r3, r4, e1, by simpa using e2⟩
set_option maxHeartbeats 8000000 in
set_option maxRecDepth 100000 in
theorem dX.calls (k : Nat) (a0_0 a0_1 : Int) (A1 : Option Addr) (c1 : Nat) (l1 : List Int) (r : List (S28)) (w : World) (hT : ej w) (hr1 : Kd.C (Kd.int .u64) w A1 l1.length l1) (hc1 : l1.length ≤ c1) (h : dX.f k a0_0 a0_1 l1 = some r) :
  Calls Tryz.prog 75 #[.agg #[.int .i64 a0_0, .int .i64 a0_1], .slice A1 l1.length c1] w fun e w' => ∃ v0_ : Value, e = .returned (v0_) ∧ Kd.S k28 28 w' w.heap.size (fun _ => True) v0_ r ∧ Below w.heap.size w w' := by
 unfold dX.f at h
 split at h
 case isFalse => cases h
 rename_i hlen
 obtain ⟨figs, hfigs, h⟩ := Option.bind_eq_some_iff.mp h
 split at h
 case isFalse => cases h
 rename_i htx
 have h := Option.some.inj h
 have hfl := qA hfigs
 have HT := aa.mk hT
 have HC := aa.mk hr1
 have HFIG := aa.mk hfigs
 have HTX := aa.mk htx
 have HR := aa.mk h
 have HFL := aa.mk hfl
 clear hT hr1 hfigs htx h hfl
 go_enter Tryz.func75, Tryz.ntmps75
 go_wp2_with (first
  | ((with_reducible refine aV (N := 2) rfl ?_); refine aM ?hg (N := 2) ?hd (cs := #[.int .i64 a0_0, .int .i64 a0_1]) (t := 61) ?hr ?_; (case hd => rfl); (case hg => rfl); (case hr => first | (go_simp; done) | (go_simp; rfl)); intro gb hgb w1 hbg hb1; have HGB := aa.mk hgb; have HBG := aa.mk hbg; have HB1 := aa.mk hb1; clear hgb hbg hb1)
  | ((with_reducible refine aV (N := 8) rfl ?_); refine Kd.qa k28 _ 28 ?hg (N := 8) ?hd (xs := ([] : List (S28))) (inner := []) (ok := fun _ => True) (okp := fun _ => True) ?hr ?hp (fun _ hk => hk) trivial (Below.refl _ _) (Nat.le_refl _) (by simp) ?_; (case hd => rfl); (case hg => rfl); (case hr => first | (go_simp; done) | (go_simp; rfl)); (case hp => exact (gu.none _ _)); intro v8 w2 ho2 hb2 hg_ hnew_; clear hg_ hnew_; have HO2 := aa.mk (Kd.pe (Cv ho2) HB1.out.size); have HB2 := aa.mk (HB1.out.trans (hb2.mono HB1.out.size)); have HG2 := aa.mk ((hb2.block _ (a7 HBG.out)).trans HBG.out); clear ho2 hb2))
 go_loopg [5, 7, 11] (l1.length + 1) (fun gg s5 _ s11 wr => ∃ (kk : Nat), kk ≤ l1.length ∧ l1.length - kk < gg ∧ s11 = .int .i64 (kk : Int) ∧ aa (Kd.S k28 28 wr w.heap.size (fun _ => True) s5 (figs.take kk)) ∧ aa (Below w.heap.size w wr) ∧ aa (wr.heap[gb]? = some (.cells #[.int .i64 a0_0, .int .i64 a0_1] 61 (0, 0))))
 case atStart => exact ⟨0, Nat.zero_le _, by omega, rfl, by simpa using HO2, HB2, HG2⟩
 case round =>
  clear HO2 HB2 HG2
  obtain ⟨kk, hkk, hgk, rfl, HO, HBW, HG⟩ := hrel
  obtain ⟨A5, c5, hv5⟩ := Kd.nm HO.out
  subst hv5
  have htl : (figs.take kk).length = kk := by rw [List.length_take, HFL.out]; omega
  have HO := aa.mk (show Kd.S k28 28 wr w.heap.size (fun _ => True) (.slice A5 kk c5) (figs.take kk) by have h := HO.out; rw [htl] at h; exact h)
  rw [htl]
  by_cases hlt : kk < l1.length
  ·have hltz : (kk : Int) < (l1.length : Int) := by omega
   obtain ⟨ad, had, hcell⟩ := Kd.dv (Kd.ax HC.out HBW.out) (kk : Int) (by omega) hltz
   subst had
   have hcell' : wr.cell? (ad.add kk) = some (.int .u64 (rd l1 kk)) := hcell
   clear hcell
   obtain ⟨r1, r2, r3, r4, hr1, hr2⟩ := u2 HFIG.out kk hlt
   have HRES := aa.mk hr1
   have HGET := aa.mk hr2
   clear hr1 hr2
   generalize rd l1 (kk : Int) = sx at hcell' HRES
   have zd : wr.cell? ⟨gb, 0, none⟩ = some (.int .i64 a0_0) := (ai HG.out 0).trans rfl
   have Ce : wr.cell? ⟨gb, 1, none⟩ = some (.int .i64 a0_1) := (ai HG.out 1).trans rfl
   go_wp2_with fail
   refine (bM.calls k a0_0 a0_1 sx r1 r2 r3 r4 wr (HT.out.below HBW.out) HRES.out).mono ?_
   rintro e w3 ⟨v2, v3, rfl, ho2, ho3, hb3⟩
   obtain ⟨A2, c2, hv2⟩ := Kd.bE ho2
   obtain ⟨A3, c3, hv3⟩ := Kd.bE ho3
   subst hv2 hv3
   have HB3 := aa.mk (HBW.out.trans (hb3.mono HBW.out.size))
   have HO3 := aa.mk (Kd.nN (Kd.j2 (Kd.sV HO.out) hb3) (fun b hb => show True ∧ ¬ wr.heap.size ≤ b from ⟨trivial, by have := hb.2.2.1; omega⟩))
   have HG3 := aa.mk ((hb3.block _ (a7 HG.out)).trans HG.out)
   have HM := aa.mk (show k28.M w3 w.heap.size (fun b => wr.heap.size ≤ b) (⟨r1, r2, r3, r4⟩ : S28) [.int .i64 r1, .int .i64 r2, .slice A2 r3.length c2, .slice A3 r4.length c3] from
    AV w3 w.heap.size _ ⟨r1, r2, r3, r4⟩ (Kd.bV (Kd.cW (Kd.fv ho2) HBW.out.size) (fun b hb => hb.2.1)) (Kd.bV (Kd.cW (Kd.fv ho3) HBW.out.size) (fun b hb => hb.2.1)))
   have HNB := aa.mk (fun b (hb : wr.heap.size ≤ b) => show True ∧ some b ≠ (Value.slice A5 kk c5).ownBlock from ⟨trivial, fun e => by
    have := Kd.S_lt HO.out b e.symm
    omega⟩)
   have hsz3 : w.heap.size ≤ w3.heap.size := HB3.out.size
   clear ho2 ho3 hb3 zd Ce
   go_wp2_with (first | ((with_reducible refine cH (b := .append) (xs := #[.tmp 15, .tmp 19]) rfl ?_); at_builtin; refine Kd.zF k28 (w0 := w) w.heap.size rfl (.tmp 15) (.tmp 19) 39 28 (.agg #[.int .i64 0, .int .i64 0, .slice none 0 0, .slice none 0 0]) 64 rfl Tryz.underlying39 AX rfl (by decide) (by omega) (.slice A5 kk c5) (figs.take kk) (⟨r1, r2, r3, r4⟩ : S28) [.int .i64 r1, .int .i64 r2, .slice A2 r3.length c2, .slice A3 r4.length c3] (fun _ => True) (fun b => wr.heap.size ≤ b) rfl rfl HM.out HNB.out (fun _ _ => trivial) HO3.out HB3.out hsz3 (by rw [htl]; omega) ?_; intro v4 w4 ho hb4 hgr hat; obtain ⟨A6, c6, hv4⟩ := Kd.nm ho; rw [List.length_append, List.length_singleton, htl] at hv4; subst hv4; have HO4 := aa.mk ho; have HB4 := aa.mk hb4; have HG4 := aa.mk (eM HG3.out hgr (Kd.S_ne HO3.out HG3.out (by decide))); clear ho hb4 hgr hat))
   go_roundg (l1.length - kk)
   case measure => omega
   case rel => exact ⟨kk + 1, by omega, by omega, by go_num, ⟨by rw [List.take_add_one, HGET.out]; exact HO4.out⟩, HB4, HG4⟩
  ·have hltz : ¬ (kk : Int) < (l1.length : Int) := by omega
   obtain rfl : kk = l1.length := by omega
   have htk : figs.take l1.length = figs := by rw [← HFL.out]; exact List.take_length
   have HO := aa.mk (show Kd.S k28 28 wr w.heap.size (fun _ => True) (.slice A5 l1.length c5) figs by have h := HO.out; rw [htk] at h; exact h)
   have hfl := HFL.out
   have HSORT := aa.mk (pq k figs (A := A5) (c := c5) (by rw [hfl]; exact HO.out) HBW.out HBW.out.size (by omega) (fun q hq => by
    have h1 := List.all_eq_true.1 HTX.out q hq
    exact Option.isSome_iff_exists.1 h1))
   rw [hfl] at HSORT
   clear hfl htk
   go_wp2_with (go_at_call 113; refine HSORT.out.mono ?_; rintro e w9 ⟨rfl, ho9, hb9⟩)
   go_ret
   exact ⟨_, rfl, by rw [← HR.out]; exact ho9, hb9⟩
end Go.Proofs.YtmjlmloomkodpaaGreatDoor.PA
namespace Go.Proofs.YtmjlmloomkodpaaGreatDoor.PA
open Go.RowKit Go.Proofs.ae.aw Go.Proofs.ae.aJ Go.Proofs.ae.aN
attribute [local go_sem] bo bm bC bB a6 aZ bn bj
set_option linter.unusedVariables false
set_option linter.unusedSimpArgs false
set_option maxHeartbeats 8000000 in
set_option maxRecDepth 100000 in
theorem gr (a0_0 a0_1 : Int) (v2 v3 : Value) (a0_4 : Int) (a0_5 : Bool) (a0_6 : Int) (w : World) (h2 : ∃ A n c, v2 = .slice A n c) (h3 : ∃ A n c, v3 = .slice A n c) :
  Calls Tryz.prog 73 #[.agg #[.int .i64 a0_0, .int .i64 a0_1, v2, v3, .int .i64 a0_4, .bool a0_5, .int .i64 a0_6]] w fun e w' => e = .returned (.agg #[.int .i64 a0_0, .int .i64 a0_1, v2, v3, .int .i64 a0_4, .bool a0_5]) ∧ Below w.heap.size w w' := by
 obtain ⟨A2, n2, c2, rfl⟩ := h2
 obtain ⟨A3, n3, c3, rfl⟩ := h3
 go_enter Tryz.func73, Tryz.ntmps73
 go_wp2_with fail
 refine bodyPost_ret (results_cell_row rfl _ _ (w.heap.size + 1) 90 #[.int .i64 a0_0, .int .i64 a0_1, .slice A2 n2 c2, .slice A3 n3 c3, .int .i64 a0_4, .bool a0_5] (0, 0) _ rfl ?_ Tryz.underlying90 rfl (by kernel_rfl)) rfl ?_
 ·have h := heap_alloc_new (w.alloc (.cells #[.int .i64 a0_0, .int .i64 a0_1, .slice A2 n2 c2, .slice A3 n3 c3, .int .i64 a0_4, .bool a0_5, .int .i64 a0_6] 32)) (.cells #[.int .i64 a0_0, .int .i64 a0_1, .slice A2 n2 c2, .slice A3 n3 c3, .int .i64 a0_4, .bool a0_5] 90)
  rw [World.size_alloc] at h
  exact h
 ·exact ⟨rfl, ag (ag (Below.refl _ _) _) _⟩
end Go.Proofs.YtmjlmloomkodpaaGreatDoor.PA
namespace Go.Proofs.YtmjlmloomkodpaaGreatDoor.PA
open Go.RowKit Go.Proofs.ae.aw Go.Proofs.ae.aJ Go.Proofs.ae.aN
attribute [local go_sem] bo bm bC bB a6 aZ bn bj
set_option linter.unusedVariables false
set_option linter.unusedSimpArgs false
def dW.f (a0_0 : Int) (a0_1 : Int) (l0_2 : List Int) (l0_3 : List Int) : Option (Bool) := (fl.f a0_0 a0_1 l0_2 l0_3).bind fun t203 => (if t203 = true then (some (decide ((wrap64 (a0_0 * a0_1)) ≤ 9))) else (some false))
set_option maxHeartbeats 8000000 in
set_option maxRecDepth 100000 in
theorem dW.calls (a0_0 : Int) (a0_1 : Int) (A0_2 : Option Addr) (c0_2 : Nat) (l0_2 : List Int) (A0_3 : Option Addr) (c0_3 : Nat) (l0_3 : List Int) (r : Bool) (w : World) (ca : Kd.C (Kd.int .i64) w A0_2 l0_2.length l0_2) (bX : l0_2.length ≤ c0_2) (b0 : Kd.C (Kd.int .i64) w A0_3 l0_3.length l0_3) (bW : l0_3.length ≤ c0_3) (h : dW.f a0_0 a0_1 l0_2 l0_3 = some r) :
  Calls Tryz.prog 131 #[.agg #[.int .i64 a0_0, .int .i64 a0_1, .slice A0_2 l0_2.length c0_2, .slice A0_3 l0_3.length c0_3]] w fun e w' => e = .returned (.bool r) ∧ Below w.heap.size w w' := by
 have hu28 := Tryz.underlying28
 have cy := aa.mk ca
 have cD := aa.mk bX
 clear ca bX
 have cF := aa.mk b0
 have cK := aa.mk bW
 clear b0 bW
 have HB := aa.mk (Below.refl w.heap.size w)
 have H : ((fl.f a0_0 a0_1 l0_2 l0_3).bind fun t203 => (if t203 = true then (some (decide ((wrap64 (a0_0 * a0_1)) ≤ 9))) else (some false))) = some r := h
 clear h
 replace H := Option.bind_eq_some_iff.mp H
 obtain ⟨t203, A20, H⟩ := H
 replace H : (if t203 = true then (some (decide ((wrap64 (a0_0 * a0_1)) ≤ 9))) else (some false)) = some r := H
 have A2 := aa.mk A20
 clear A20
 by_cases c3 : t203 = true
 ·subst c3
  have H1 : (some (decide ((wrap64 (a0_0 * a0_1)) ≤ 9))) = some r := by rw [if_pos rfl] at H; exact H
  clear H
  have H := H1
  clear H1
  obtain rfl := Option.some.inj H
  go_enter Tryz.func131, Tryz.ntmps131
  go_wp2_with (first | ((with_reducible refine aV (N := 1) rfl ?_); refine aM ?hg (N := 1) ?hd (cs := #[.int .i64 a0_0, .int .i64 a0_1, .slice A0_2 l0_2.length c0_2, .slice A0_3 l0_3.length c0_3]) (t := 28) ?hr ?_; (case hd => rfl); (case hg => rfl); (case hr => first | (go_simp; done) | (go_simp; rfl)); intro ik hg w4 hbox hb; have n0_ := aa.mk (ar (by repeat (first | (with_reducible first | exact HB.out | apply ag | apply af | apply ah) | exact HB.out)) hb); have n1_ := aa.mk (hbox); have n2_ := aa.mk ((by rw [hg]; exact (aq (by repeat (first | (with_reducible first | exact HB.out | apply ag | apply af | apply ah) | exact HB.out))) : w.heap.size ≤ ik)); have n3_ := aa.mk ((by rw [hg]; exact (aq (by repeat (first | (with_reducible first | exact HB.out | apply ag | apply af | apply ah) | exact HB.out))) : w.heap.size ≤ ik)); clear HB; have HB := n0_; have eV := n1_; have Ga := n2_; have uo := n3_; clear n0_ n1_ n2_ n3_; clear hb hbox hg; have sv : w4.cell? ⟨ik, 0, none⟩ = some (.int .i64 a0_0) := (ai eV.out 0).trans rfl; have su : w4.cell? ⟨ik, 1, none⟩ = some (.int .i64 a0_1) := (ai eV.out 1).trans rfl; have so : w4.cell? ⟨ik, 2, none⟩ = some (.slice A0_2 l0_2.length c0_2) := (ai eV.out 2).trans rfl; have sm : w4.cell? ⟨ik, 3, none⟩ = some (.slice A0_3 l0_3.length c0_3) := (ai eV.out 3).trans rfl; have rT := aj eV.out 0; have rS := aj eV.out 1; have rR := aj eV.out 2; have rQ := aj eV.out 3) | ((with_reducible refine az (f := 165) rfl ?_); refine bI (some 4) rfl rfl Tryz.func165 (by kernel_rfl) rfl #[.agg #[.int .i64 a0_0, .int .i64 a0_1, .slice A0_2 l0_2.length c0_2, .slice A0_3 l0_3.length c0_3]] rfl (by (try simp only [List.map_toArray, List.map_cons, List.map_nil]); first | done | rfl | (simp only [List.length_drop, List.length_take]; rfl)) ?_; (with_reducible refine (fl.calls a0_0 a0_1 _ _ l0_2 _ _ l0_3 true _ ?side1 ?side2 ?side3 ?side4 A2.out).mono ?_); (case side1 => repeat (first | exact (Kd.ax cy.out HB.out) | (with_reducible refine Kd.aX ?_ _) | (with_reducible refine Kd.aW ?_ _) | (with_reducible refine Kd.bh ?_))); (case side2 => exact cD.out); (case side3 => repeat (first | exact (Kd.ax cF.out HB.out) | (with_reducible refine Kd.aX ?_ _) | (with_reducible refine Kd.aW ?_ _) | (with_reducible refine Kd.bh ?_))); (case side4 => exact cK.out); rintro e w6 ⟨rfl, hb⟩; refine ⟨_, rfl, ?_⟩; have n0_ := aa.mk (aD (g := ik) (o := .cells #[.int .i64 a0_0, .int .i64 a0_1, .slice A0_2 l0_2.length c0_2, .slice A0_3 l0_3.length c0_3] 28 (0, 0)) (by (with_reducible repeat (first | refine al ?_ _ | refine ao ?_ | refine an ?_ _)); exact eV.out) hb); have n1_ := aa.mk (ar (by repeat (first | (with_reducible first | exact HB.out | apply ag | apply af | apply ah | refine ak ?_ uo.out) | exact HB.out)) hb); clear eV; clear HB; have eV := n0_; have HB := n1_; clear n0_ n1_; (try clear hb); (try clear hb2); (try clear hk); (try clear hi); have jA : w6.cell? ⟨ik, 0, none⟩ = some (.int .i64 a0_0) := (ai eV.out 0).trans rfl; have jz : w6.cell? ⟨ik, 1, none⟩ = some (.int .i64 a0_1) := (ai eV.out 1).trans rfl; have lr : w6.cell? ⟨ik, 2, none⟩ = some (.slice A0_2 l0_2.length c0_2) := (ai eV.out 2).trans rfl; have lq : w6.cell? ⟨ik, 3, none⟩ = some (.slice A0_3 l0_3.length c0_3) := (ai eV.out 3).trans rfl; have jy := aj eV.out 0; have jx := aj eV.out 1; have lf := aj eV.out 2; have la := aj eV.out 3))
  go_ret
  exact ⟨by first | rfl | (simp [av, au] <;> rfl) | (simp [*, av, au] <;> rfl), by repeat (first | (with_reducible first | exact HB.out | apply ag | apply af | apply ah | refine ak ?_ uo.out) | exact HB.out)⟩
 ·replace c3 := Bool.eq_false_iff.mpr c3
  subst c3
  have H1 : (some false) = some r := by rw [if_neg (show ¬ (false = true) by decide)] at H; exact H
  clear H
  have H := H1
  clear H1
  obtain rfl := Option.some.inj H
  go_enter Tryz.func131, Tryz.ntmps131
  go_wp2_with (first | ((with_reducible refine aV (N := 1) rfl ?_); refine aM ?hg (N := 1) ?hd (cs := #[.int .i64 a0_0, .int .i64 a0_1, .slice A0_2 l0_2.length c0_2, .slice A0_3 l0_3.length c0_3]) (t := 28) ?hr ?_; (case hd => rfl); (case hg => rfl); (case hr => first | (go_simp; done) | (go_simp; rfl)); intro ik hg w8 hbox hb; have n0_ := aa.mk (ar (by repeat (first | (with_reducible first | exact HB.out | apply ag | apply af | apply ah) | exact HB.out)) hb); have n1_ := aa.mk (hbox); have n2_ := aa.mk ((by rw [hg]; exact (aq (by repeat (first | (with_reducible first | exact HB.out | apply ag | apply af | apply ah) | exact HB.out))) : w.heap.size ≤ ik)); have n3_ := aa.mk ((by rw [hg]; exact (aq (by repeat (first | (with_reducible first | exact HB.out | apply ag | apply af | apply ah) | exact HB.out))) : w.heap.size ≤ ik)); clear HB; have HB := n0_; have eV := n1_; have Ga := n2_; have uo := n3_; clear n0_ n1_ n2_ n3_; clear hb hbox hg; have gS : w8.cell? ⟨ik, 0, none⟩ = some (.int .i64 a0_0) := (ai eV.out 0).trans rfl; have gR : w8.cell? ⟨ik, 1, none⟩ = some (.int .i64 a0_1) := (ai eV.out 1).trans rfl; have iD : w8.cell? ⟨ik, 2, none⟩ = some (.slice A0_2 l0_2.length c0_2) := (ai eV.out 2).trans rfl; have iC : w8.cell? ⟨ik, 3, none⟩ = some (.slice A0_3 l0_3.length c0_3) := (ai eV.out 3).trans rfl; have gQ := aj eV.out 0; have gP := aj eV.out 1; have iB := aj eV.out 2; have iA := aj eV.out 3) | ((with_reducible refine az (f := 165) rfl ?_); refine bI (some 4) rfl rfl Tryz.func165 (by kernel_rfl) rfl #[.agg #[.int .i64 a0_0, .int .i64 a0_1, .slice A0_2 l0_2.length c0_2, .slice A0_3 l0_3.length c0_3]] rfl (by (try simp only [List.map_toArray, List.map_cons, List.map_nil]); first | done | rfl | (simp only [List.length_drop, List.length_take]; rfl)) ?_; (with_reducible refine (fl.calls a0_0 a0_1 _ _ l0_2 _ _ l0_3 false _ ?side1 ?side2 ?side3 ?side4 A2.out).mono ?_); (case side1 => repeat (first | exact (Kd.ax cy.out HB.out) | (with_reducible refine Kd.aX ?_ _) | (with_reducible refine Kd.aW ?_ _) | (with_reducible refine Kd.bh ?_))); (case side2 => exact cD.out); (case side3 => repeat (first | exact (Kd.ax cF.out HB.out) | (with_reducible refine Kd.aX ?_ _) | (with_reducible refine Kd.aW ?_ _) | (with_reducible refine Kd.bh ?_))); (case side4 => exact cK.out); rintro e w10 ⟨rfl, hb⟩; refine ⟨_, rfl, ?_⟩; have n0_ := aa.mk (aD (g := ik) (o := .cells #[.int .i64 a0_0, .int .i64 a0_1, .slice A0_2 l0_2.length c0_2, .slice A0_3 l0_3.length c0_3] 28 (0, 0)) (by (with_reducible repeat (first | refine al ?_ _ | refine ao ?_ | refine an ?_ _)); exact eV.out) hb); have n1_ := aa.mk (ar (by repeat (first | (with_reducible first | exact HB.out | apply ag | apply af | apply ah | refine ak ?_ uo.out) | exact HB.out)) hb); clear eV; clear HB; have eV := n0_; have HB := n1_; clear n0_ n1_; (try clear hb); (try clear hb2); (try clear hk); (try clear hi)))
  go_ret
  exact ⟨by first | rfl | (simp [av, au] <;> rfl) | (simp [*, av, au] <;> rfl), by repeat (first | (with_reducible first | exact HB.out | apply ag | apply af | apply ah | refine ak ?_ uo.out) | exact HB.out)⟩
end Go.Proofs.YtmjlmloomkodpaaGreatDoor.PA
namespace Go.Proofs.YtmjlmloomkodpaaGreatDoor.PA
open Go.RowKit Go.Proofs.ae.aw Go.Proofs.ae.aJ Go.Proofs.ae.aN
attribute [local go_sem] bo bm bC bB a6 aZ bn bj
set_option linter.unusedVariables false
set_option linter.unusedSimpArgs false
def dN.f (a0_0 : Int) (a0_1 : Int) (l0_2 : List Int) (l0_3 : List Int) (a0_4 : Int) (a0_5 : Bool) : Option (Bool) := if a0_5 = true then ((dW.f a0_0 a0_1 l0_2 l0_3).bind fun t205 => (if t205 = true then ((bL.f a0_4 0 2).bind fun t206 => (some t206)) else (some false))) else ((dW.f a0_0 a0_1 l0_2 l0_3).bind fun t207 => (if t207 = true then ((bL.f a0_4 0 4).bind fun t208 => (some t208)) else (some false)))
set_option maxHeartbeats 8000000 in
set_option maxRecDepth 100000 in
theorem dN.calls (a0_0 : Int) (a0_1 : Int) (A0_2 : Option Addr) (c0_2 : Nat) (l0_2 : List Int) (A0_3 : Option Addr) (c0_3 : Nat) (l0_3 : List Int) (a0_4 : Int) (a0_5 : Bool) (r : Bool) (w : World) (ca : Kd.C (Kd.int .i64) w A0_2 l0_2.length l0_2) (bX : l0_2.length ≤ c0_2) (b0 : Kd.C (Kd.int .i64) w A0_3 l0_3.length l0_3) (bW : l0_3.length ≤ c0_3) (h : dN.f a0_0 a0_1 l0_2 l0_3 a0_4 a0_5 = some r) :
  Calls Tryz.prog 97 #[.agg #[.int .i64 a0_0, .int .i64 a0_1, .slice A0_2 l0_2.length c0_2, .slice A0_3 l0_3.length c0_3, .int .i64 a0_4, .bool a0_5]] w fun e w' => e = .returned (.bool r) ∧ Below w.heap.size w w' := by
 have hu90 := Tryz.underlying90
 have hu28 := Tryz.underlying28
 have cy := aa.mk ca
 have cD := aa.mk bX
 clear ca bX
 have cF := aa.mk b0
 have cK := aa.mk bW
 clear b0 bW
 have HB := aa.mk (Below.refl w.heap.size w)
 have H : (if a0_5 = true then ((dW.f a0_0 a0_1 l0_2 l0_3).bind fun t205 => (if t205 = true then ((bL.f a0_4 0 2).bind fun t206 => (some t206)) else (some false))) else ((dW.f a0_0 a0_1 l0_2 l0_3).bind fun t207 => (if t207 = true then ((bL.f a0_4 0 4).bind fun t208 => (some t208)) else (some false)))) = some r := h
 clear h
 by_cases c2 : a0_5 = true
 ·subst c2
  have H1 : ((dW.f a0_0 a0_1 l0_2 l0_3).bind fun t205 => (if t205 = true then ((bL.f a0_4 0 2).bind fun t206 => (some t206)) else (some false))) = some r := by rw [if_pos rfl] at H; exact H
  clear H
  have H := H1
  clear H1
  replace H := Option.bind_eq_some_iff.mp H
  obtain ⟨t205, A30, H⟩ := H
  replace H : (if t205 = true then ((bL.f a0_4 0 2).bind fun t206 => (some t206)) else (some false)) = some r := H
  have A3 := aa.mk A30
  clear A30
  by_cases c4 : t205 = true
  ·subst c4
   have H1 : ((bL.f a0_4 0 2).bind fun t206 => (some t206)) = some r := by rw [if_pos rfl] at H; exact H
   clear H
   have H := H1
   clear H1
   replace H := Option.bind_eq_some_iff.mp H
   obtain ⟨t206, A50, H⟩ := H
   replace H : (some t206) = some r := H
   have A5 := aa.mk A50
   clear A50
   obtain rfl := Option.some.inj H
   go_enter Tryz.func97, Tryz.ntmps97
   go_wp2_with (first | ((with_reducible refine aV (N := 1) rfl ?_); refine aM ?hg (N := 1) ?hd (cs := #[.int .i64 a0_0, .int .i64 a0_1, .slice A0_2 l0_2.length c0_2, .slice A0_3 l0_3.length c0_3, .int .i64 a0_4, .bool true]) (t := 90) ?hr ?_; (case hd => rfl); (case hg => rfl); (case hr => first | (go_simp; done) | (go_simp; rfl)); intro dq hg w6 hbox hb; have n0_ := aa.mk (ar (by repeat (first | (with_reducible first | exact HB.out | apply ag | apply af | apply ah) | exact HB.out)) hb); have n1_ := aa.mk (hbox); have n2_ := aa.mk ((by rw [hg]; exact (aq (by repeat (first | (with_reducible first | exact HB.out | apply ag | apply af | apply ah) | exact HB.out))) : w.heap.size ≤ dq)); have n3_ := aa.mk ((by rw [hg]; exact (aq (by repeat (first | (with_reducible first | exact HB.out | apply ag | apply af | apply ah) | exact HB.out))) : w.heap.size ≤ dq)); clear HB; have HB := n0_; have ck := n1_; have zW := n2_; have lN := n3_; clear n0_ n1_ n2_ n3_; clear hb hbox hg; have jA : w6.cell? ⟨dq, 0, none⟩ = some (.int .i64 a0_0) := (ai ck.out 0).trans rfl; have jz : w6.cell? ⟨dq, 1, none⟩ = some (.int .i64 a0_1) := (ai ck.out 1).trans rfl; have lr : w6.cell? ⟨dq, 2, none⟩ = some (.slice A0_2 l0_2.length c0_2) := (ai ck.out 2).trans rfl; have lq : w6.cell? ⟨dq, 3, none⟩ = some (.slice A0_3 l0_3.length c0_3) := (ai ck.out 3).trans rfl; have uV : w6.cell? ⟨dq, 4, none⟩ = some (.int .i64 a0_4) := (ai ck.out 4).trans rfl; have uU : w6.cell? ⟨dq, 5, none⟩ = some (.bool true) := (ai ck.out 5).trans rfl; have jy := aj ck.out 0; have jx := aj ck.out 1; have lf := aj ck.out 2; have la := aj ck.out 3; have uQ := aj ck.out 4; have uP := aj ck.out 5) | ((with_reducible refine az (f := 131) rfl ?_); refine bI (some 8) rfl rfl Tryz.func131 (by kernel_rfl) rfl #[.agg #[.int .i64 a0_0, .int .i64 a0_1, .slice A0_2 l0_2.length c0_2, .slice A0_3 l0_3.length c0_3]] rfl (by (try simp only [List.map_toArray, List.map_cons, List.map_nil]); first | done | rfl | (simp only [List.length_drop, List.length_take]; rfl)) ?_; (with_reducible refine (dW.calls a0_0 a0_1 _ _ l0_2 _ _ l0_3 true _ ?side1 ?side2 ?side3 ?side4 A3.out).mono ?_); (case side1 => repeat (first | exact (Kd.ax cy.out HB.out) | (with_reducible refine Kd.aX ?_ _) | (with_reducible refine Kd.aW ?_ _) | (with_reducible refine Kd.bh ?_))); (case side2 => exact cD.out); (case side3 => repeat (first | exact (Kd.ax cF.out HB.out) | (with_reducible refine Kd.aX ?_ _) | (with_reducible refine Kd.aW ?_ _) | (with_reducible refine Kd.bh ?_))); (case side4 => exact cK.out); rintro e w8 ⟨rfl, hb⟩; refine ⟨_, rfl, ?_⟩; have n0_ := aa.mk (aD (g := dq) (o := .cells #[.int .i64 a0_0, .int .i64 a0_1, .slice A0_2 l0_2.length c0_2, .slice A0_3 l0_3.length c0_3, .int .i64 a0_4, .bool true] 90 (0, 0)) (by (with_reducible repeat (first | refine al ?_ _ | refine ao ?_ | refine an ?_ _)); exact ck.out) hb); have n1_ := aa.mk (ar (by repeat (first | (with_reducible first | exact HB.out | apply ag | apply af | apply ah | refine ak ?_ lN.out) | exact HB.out)) hb); clear ck; clear HB; have ck := n0_; have HB := n1_; clear n0_ n1_; (try clear hb); (try clear hb2); (try clear hk); (try clear hi); have gS : w8.cell? ⟨dq, 0, none⟩ = some (.int .i64 a0_0) := (ai ck.out 0).trans rfl; have gR : w8.cell? ⟨dq, 1, none⟩ = some (.int .i64 a0_1) := (ai ck.out 1).trans rfl; have iD : w8.cell? ⟨dq, 2, none⟩ = some (.slice A0_2 l0_2.length c0_2) := (ai ck.out 2).trans rfl; have iC : w8.cell? ⟨dq, 3, none⟩ = some (.slice A0_3 l0_3.length c0_3) := (ai ck.out 3).trans rfl; have si : w8.cell? ⟨dq, 4, none⟩ = some (.int .i64 a0_4) := (ai ck.out 4).trans rfl; have sh : w8.cell? ⟨dq, 5, none⟩ = some (.bool true) := (ai ck.out 5).trans rfl; have gQ := aj ck.out 0; have gP := aj ck.out 1; have iB := aj ck.out 2; have iA := aj ck.out 3; have rN := aj ck.out 4; have rM := aj ck.out 5) | (go_at_call 96; (with_reducible refine (bL.calls a0_4 0 2 t206 _ A5.out).mono ?_); rintro e w' ⟨rfl, ⟨nd, rfl⟩⟩))
   go_ret
   exact ⟨by first | rfl | (simp [av, au] <;> rfl) | (simp [*, av, au] <;> rfl), by repeat (first | (with_reducible first | exact HB.out | apply ag | apply af | apply ah | refine ak ?_ lN.out) | exact HB.out)⟩
  ·replace c4 := Bool.eq_false_iff.mpr c4
   subst c4
   have H1 : (some false) = some r := by rw [if_neg (show ¬ (false = true) by decide)] at H; exact H
   clear H
   have H := H1
   clear H1
   obtain rfl := Option.some.inj H
   go_enter Tryz.func97, Tryz.ntmps97
   go_wp2_with (first | ((with_reducible refine aV (N := 1) rfl ?_); refine aM ?hg (N := 1) ?hd (cs := #[.int .i64 a0_0, .int .i64 a0_1, .slice A0_2 l0_2.length c0_2, .slice A0_3 l0_3.length c0_3, .int .i64 a0_4, .bool true]) (t := 90) ?hr ?_; (case hd => rfl); (case hg => rfl); (case hr => first | (go_simp; done) | (go_simp; rfl)); intro dq hg w10 hbox hb; have n0_ := aa.mk (ar (by repeat (first | (with_reducible first | exact HB.out | apply ag | apply af | apply ah) | exact HB.out)) hb); have n1_ := aa.mk (hbox); have n2_ := aa.mk ((by rw [hg]; exact (aq (by repeat (first | (with_reducible first | exact HB.out | apply ag | apply af | apply ah) | exact HB.out))) : w.heap.size ≤ dq)); have n3_ := aa.mk ((by rw [hg]; exact (aq (by repeat (first | (with_reducible first | exact HB.out | apply ag | apply af | apply ah) | exact HB.out))) : w.heap.size ≤ dq)); clear HB; have HB := n0_; have ck := n1_; have zW := n2_; have lN := n3_; clear n0_ n1_ n2_ n3_; clear hb hbox hg; have pa : w10.cell? ⟨dq, 0, none⟩ = some (.int .i64 a0_0) := (ai ck.out 0).trans rfl; have o9 : w10.cell? ⟨dq, 1, none⟩ = some (.int .i64 a0_1) := (ai ck.out 1).trans rfl; have o8 : w10.cell? ⟨dq, 2, none⟩ = some (.slice A0_2 l0_2.length c0_2) := (ai ck.out 2).trans rfl; have o7 : w10.cell? ⟨dq, 3, none⟩ = some (.slice A0_3 l0_3.length c0_3) := (ai ck.out 3).trans rfl; have wT : w10.cell? ⟨dq, 4, none⟩ = some (.int .i64 a0_4) := (ai ck.out 4).trans rfl; have wS : w10.cell? ⟨dq, 5, none⟩ = some (.bool true) := (ai ck.out 5).trans rfl; have o4 := aj ck.out 0; have o3 := aj ck.out 1; have o2 := aj ck.out 2; have oZ := aj ck.out 3; have wm := aj ck.out 4; have wk := aj ck.out 5) | ((with_reducible refine az (f := 131) rfl ?_); refine bI (some 8) rfl rfl Tryz.func131 (by kernel_rfl) rfl #[.agg #[.int .i64 a0_0, .int .i64 a0_1, .slice A0_2 l0_2.length c0_2, .slice A0_3 l0_3.length c0_3]] rfl (by (try simp only [List.map_toArray, List.map_cons, List.map_nil]); first | done | rfl | (simp only [List.length_drop, List.length_take]; rfl)) ?_; (with_reducible refine (dW.calls a0_0 a0_1 _ _ l0_2 _ _ l0_3 false _ ?side1 ?side2 ?side3 ?side4 A3.out).mono ?_); (case side1 => repeat (first | exact (Kd.ax cy.out HB.out) | (with_reducible refine Kd.aX ?_ _) | (with_reducible refine Kd.aW ?_ _) | (with_reducible refine Kd.bh ?_))); (case side2 => exact cD.out); (case side3 => repeat (first | exact (Kd.ax cF.out HB.out) | (with_reducible refine Kd.aX ?_ _) | (with_reducible refine Kd.aW ?_ _) | (with_reducible refine Kd.bh ?_))); (case side4 => exact cK.out); rintro e w12 ⟨rfl, hb⟩; refine ⟨_, rfl, ?_⟩; have n0_ := aa.mk (aD (g := dq) (o := .cells #[.int .i64 a0_0, .int .i64 a0_1, .slice A0_2 l0_2.length c0_2, .slice A0_3 l0_3.length c0_3, .int .i64 a0_4, .bool true] 90 (0, 0)) (by (with_reducible repeat (first | refine al ?_ _ | refine ao ?_ | refine an ?_ _)); exact ck.out) hb); have n1_ := aa.mk (ar (by repeat (first | (with_reducible first | exact HB.out | apply ag | apply af | apply ah | refine ak ?_ lN.out) | exact HB.out)) hb); clear ck; clear HB; have ck := n0_; have HB := n1_; clear n0_ n1_; (try clear hb); (try clear hb2); (try clear hk); (try clear hi)))
   go_ret
   exact ⟨by first | rfl | (simp [av, au] <;> rfl) | (simp [*, av, au] <;> rfl), by repeat (first | (with_reducible first | exact HB.out | apply ag | apply af | apply ah | refine ak ?_ lN.out) | exact HB.out)⟩
 ·replace c2 := Bool.eq_false_iff.mpr c2
  subst c2
  have H1 : ((dW.f a0_0 a0_1 l0_2 l0_3).bind fun t207 => (if t207 = true then ((bL.f a0_4 0 4).bind fun t208 => (some t208)) else (some false))) = some r := by rw [if_neg (show ¬ (false = true) by decide)] at H; exact H
  clear H
  have H := H1
  clear H1
  replace H := Option.bind_eq_some_iff.mp H
  obtain ⟨t207, A130, H⟩ := H
  replace H : (if t207 = true then ((bL.f a0_4 0 4).bind fun t208 => (some t208)) else (some false)) = some r := H
  have A13 := aa.mk A130
  clear A130
  by_cases c14 : t207 = true
  ·subst c14
   have H1 : ((bL.f a0_4 0 4).bind fun t208 => (some t208)) = some r := by rw [if_pos rfl] at H; exact H
   clear H
   have H := H1
   clear H1
   replace H := Option.bind_eq_some_iff.mp H
   obtain ⟨t208, A150, H⟩ := H
   replace H : (some t208) = some r := H
   have A15 := aa.mk A150
   clear A150
   obtain rfl := Option.some.inj H
   go_enter Tryz.func97, Tryz.ntmps97
   go_wp2_with (first | ((with_reducible refine aV (N := 1) rfl ?_); refine aM ?hg (N := 1) ?hd (cs := #[.int .i64 a0_0, .int .i64 a0_1, .slice A0_2 l0_2.length c0_2, .slice A0_3 l0_3.length c0_3, .int .i64 a0_4, .bool false]) (t := 90) ?hr ?_; (case hd => rfl); (case hg => rfl); (case hr => first | (go_simp; done) | (go_simp; rfl)); intro dq hg w16 hbox hb; have n0_ := aa.mk (ar (by repeat (first | (with_reducible first | exact HB.out | apply ag | apply af | apply ah) | exact HB.out)) hb); have n1_ := aa.mk (hbox); have n2_ := aa.mk ((by rw [hg]; exact (aq (by repeat (first | (with_reducible first | exact HB.out | apply ag | apply af | apply ah) | exact HB.out))) : w.heap.size ≤ dq)); have n3_ := aa.mk ((by rw [hg]; exact (aq (by repeat (first | (with_reducible first | exact HB.out | apply ag | apply af | apply ah) | exact HB.out))) : w.heap.size ≤ dq)); clear HB; have HB := n0_; have ck := n1_; have zW := n2_; have lN := n3_; clear n0_ n1_ n2_ n3_; clear hb hbox hg; have wP : w16.cell? ⟨dq, 0, none⟩ = some (.int .i64 a0_0) := (ai ck.out 0).trans rfl; have wO : w16.cell? ⟨dq, 1, none⟩ = some (.int .i64 a0_1) := (ai ck.out 1).trans rfl; have BX : w16.cell? ⟨dq, 2, none⟩ = some (.slice A0_2 l0_2.length c0_2) := (ai ck.out 2).trans rfl; have BV : w16.cell? ⟨dq, 3, none⟩ = some (.slice A0_3 l0_3.length c0_3) := (ai ck.out 3).trans rfl; have hcz17_4 : w16.cell? ⟨dq, 4, none⟩ = some (.int .i64 a0_4) := (ai ck.out 4).trans rfl; have hcz17_5 : w16.cell? ⟨dq, 5, none⟩ = some (.bool false) := (ai ck.out 5).trans rfl; have wh := aj ck.out 0; have wg := aj ck.out 1; have BB := aj ck.out 2; have BA := aj ck.out 3; have Ha := aj ck.out 4; have G9 := aj ck.out 5) | ((with_reducible refine az (f := 131) rfl ?_); refine bI (some 8) rfl rfl Tryz.func131 (by kernel_rfl) rfl #[.agg #[.int .i64 a0_0, .int .i64 a0_1, .slice A0_2 l0_2.length c0_2, .slice A0_3 l0_3.length c0_3]] rfl (by (try simp only [List.map_toArray, List.map_cons, List.map_nil]); first | done | rfl | (simp only [List.length_drop, List.length_take]; rfl)) ?_; (with_reducible refine (dW.calls a0_0 a0_1 _ _ l0_2 _ _ l0_3 true _ ?side1 ?side2 ?side3 ?side4 A13.out).mono ?_); (case side1 => repeat (first | exact (Kd.ax cy.out HB.out) | (with_reducible refine Kd.aX ?_ _) | (with_reducible refine Kd.aW ?_ _) | (with_reducible refine Kd.bh ?_))); (case side2 => exact cD.out); (case side3 => repeat (first | exact (Kd.ax cF.out HB.out) | (with_reducible refine Kd.aX ?_ _) | (with_reducible refine Kd.aW ?_ _) | (with_reducible refine Kd.bh ?_))); (case side4 => exact cK.out); rintro e w18 ⟨rfl, hb⟩; refine ⟨_, rfl, ?_⟩; have n0_ := aa.mk (aD (g := dq) (o := .cells #[.int .i64 a0_0, .int .i64 a0_1, .slice A0_2 l0_2.length c0_2, .slice A0_3 l0_3.length c0_3, .int .i64 a0_4, .bool false] 90 (0, 0)) (by (with_reducible repeat (first | refine al ?_ _ | refine ao ?_ | refine an ?_ _)); exact ck.out) hb); have n1_ := aa.mk (ar (by repeat (first | (with_reducible first | exact HB.out | apply ag | apply af | apply ah | refine ak ?_ lN.out) | exact HB.out)) hb); clear ck; clear HB; have ck := n0_; have HB := n1_; clear n0_ n1_; (try clear hb); (try clear hb2); (try clear hk); (try clear hi); have wL : w18.cell? ⟨dq, 0, none⟩ = some (.int .i64 a0_0) := (ai ck.out 0).trans rfl; have wK : w18.cell? ⟨dq, 1, none⟩ = some (.int .i64 a0_1) := (ai ck.out 1).trans rfl; have wJ : w18.cell? ⟨dq, 2, none⟩ = some (.slice A0_2 l0_2.length c0_2) := (ai ck.out 2).trans rfl; have wI : w18.cell? ⟨dq, 3, none⟩ = some (.slice A0_3 l0_3.length c0_3) := (ai ck.out 3).trans rfl; have hcz19_4 : w18.cell? ⟨dq, 4, none⟩ = some (.int .i64 a0_4) := (ai ck.out 4).trans rfl; have hcz19_5 : w18.cell? ⟨dq, 5, none⟩ = some (.bool false) := (ai ck.out 5).trans rfl; have wa := aj ck.out 0; have vZ := aj ck.out 1; have vY := aj ck.out 2; have vX := aj ck.out 3; have G8 := aj ck.out 4; have G7 := aj ck.out 5) | (go_at_call 96; (with_reducible refine (bL.calls a0_4 0 4 t208 _ A15.out).mono ?_); rintro e w' ⟨rfl, ⟨nd, rfl⟩⟩))
   go_ret
   exact ⟨by first | rfl | (simp [av, au] <;> rfl) | (simp [*, av, au] <;> rfl), by repeat (first | (with_reducible first | exact HB.out | apply ag | apply af | apply ah | refine ak ?_ lN.out) | exact HB.out)⟩
  ·replace c14 := Bool.eq_false_iff.mpr c14
   subst c14
   have H1 : (some false) = some r := by rw [if_neg (show ¬ (false = true) by decide)] at H; exact H
   clear H
   have H := H1
   clear H1
   obtain rfl := Option.some.inj H
   go_enter Tryz.func97, Tryz.ntmps97
   go_wp2_with (first | ((with_reducible refine aV (N := 1) rfl ?_); refine aM ?hg (N := 1) ?hd (cs := #[.int .i64 a0_0, .int .i64 a0_1, .slice A0_2 l0_2.length c0_2, .slice A0_3 l0_3.length c0_3, .int .i64 a0_4, .bool false]) (t := 90) ?hr ?_; (case hd => rfl); (case hg => rfl); (case hr => first | (go_simp; done) | (go_simp; rfl)); intro dq hg w20 hbox hb; have n0_ := aa.mk (ar (by repeat (first | (with_reducible first | exact HB.out | apply ag | apply af | apply ah) | exact HB.out)) hb); have n1_ := aa.mk (hbox); have n2_ := aa.mk ((by rw [hg]; exact (aq (by repeat (first | (with_reducible first | exact HB.out | apply ag | apply af | apply ah) | exact HB.out))) : w.heap.size ≤ dq)); have n3_ := aa.mk ((by rw [hg]; exact (aq (by repeat (first | (with_reducible first | exact HB.out | apply ag | apply af | apply ah) | exact HB.out))) : w.heap.size ≤ dq)); clear HB; have HB := n0_; have ck := n1_; have zW := n2_; have lN := n3_; clear n0_ n1_ n2_ n3_; clear hb hbox hg; have BU : w20.cell? ⟨dq, 0, none⟩ = some (.int .i64 a0_0) := (ai ck.out 0).trans rfl; have BT : w20.cell? ⟨dq, 1, none⟩ = some (.int .i64 a0_1) := (ai ck.out 1).trans rfl; have BS : w20.cell? ⟨dq, 2, none⟩ = some (.slice A0_2 l0_2.length c0_2) := (ai ck.out 2).trans rfl; have BR : w20.cell? ⟨dq, 3, none⟩ = some (.slice A0_3 l0_3.length c0_3) := (ai ck.out 3).trans rfl; have hcz21_4 : w20.cell? ⟨dq, 4, none⟩ = some (.int .i64 a0_4) := (ai ck.out 4).trans rfl; have hcz21_5 : w20.cell? ⟨dq, 5, none⟩ = some (.bool false) := (ai ck.out 5).trans rfl; have Bz := aj ck.out 0; have Bx := aj ck.out 1; have Bw := aj ck.out 2; have Bv := aj ck.out 3; have G3 := aj ck.out 4; have G2 := aj ck.out 5) | ((with_reducible refine az (f := 131) rfl ?_); refine bI (some 8) rfl rfl Tryz.func131 (by kernel_rfl) rfl #[.agg #[.int .i64 a0_0, .int .i64 a0_1, .slice A0_2 l0_2.length c0_2, .slice A0_3 l0_3.length c0_3]] rfl (by (try simp only [List.map_toArray, List.map_cons, List.map_nil]); first | done | rfl | (simp only [List.length_drop, List.length_take]; rfl)) ?_; (with_reducible refine (dW.calls a0_0 a0_1 _ _ l0_2 _ _ l0_3 false _ ?side1 ?side2 ?side3 ?side4 A13.out).mono ?_); (case side1 => repeat (first | exact (Kd.ax cy.out HB.out) | (with_reducible refine Kd.aX ?_ _) | (with_reducible refine Kd.aW ?_ _) | (with_reducible refine Kd.bh ?_))); (case side2 => exact cD.out); (case side3 => repeat (first | exact (Kd.ax cF.out HB.out) | (with_reducible refine Kd.aX ?_ _) | (with_reducible refine Kd.aW ?_ _) | (with_reducible refine Kd.bh ?_))); (case side4 => exact cK.out); rintro e w22 ⟨rfl, hb⟩; refine ⟨_, rfl, ?_⟩; have n0_ := aa.mk (aD (g := dq) (o := .cells #[.int .i64 a0_0, .int .i64 a0_1, .slice A0_2 l0_2.length c0_2, .slice A0_3 l0_3.length c0_3, .int .i64 a0_4, .bool false] 90 (0, 0)) (by (with_reducible repeat (first | refine al ?_ _ | refine ao ?_ | refine an ?_ _)); exact ck.out) hb); have n1_ := aa.mk (ar (by repeat (first | (with_reducible first | exact HB.out | apply ag | apply af | apply ah | refine ak ?_ lN.out) | exact HB.out)) hb); clear ck; clear HB; have ck := n0_; have HB := n1_; clear n0_ n1_; (try clear hb); (try clear hb2); (try clear hk); (try clear hi)))
   go_ret
   exact ⟨by first | rfl | (simp [av, au] <;> rfl) | (simp [*, av, au] <;> rfl), by repeat (first | (with_reducible first | exact HB.out | apply ag | apply af | apply ah | refine ak ?_ lN.out) | exact HB.out)⟩
end Go.Proofs.YtmjlmloomkodpaaGreatDoor.PA
namespace Go.Proofs.YtmjlmloomkodpaaGreatDoor.PA
open Go.RowKit Go.Proofs.ae.aw Go.Proofs.ae.aJ Go.Proofs.ae.aN
attribute [local go_sem] bo bm bC bB a6 aZ bn bj
set_option linter.unusedVariables false
set_option linter.unusedSimpArgs false
def ep.f (a0 : Int) : Option (Int) := some (Go.bits .and .i64 (wrap64 (IntKind.u64.wrap ((IntKind.u64.wrap ((IntKind.u64.wrap ((Go.bits .and .u64 (IntKind.u64.wrap (((IntKind.u64.wrap ((Go.bits .and .u64 ((IntKind.u64.wrap ((Go.bits .and .u64 (a0 / 2) 6148914691236517205) + (Go.bits .and .u64 a0 6148914691236517205))) / 4) 3689348814741910323) + (Go.bits .and .u64 (IntKind.u64.wrap ((Go.bits .and .u64 (a0 / 2) 6148914691236517205) + (Go.bits .and .u64 a0 6148914691236517205))) 3689348814741910323))) / 16) + (IntKind.u64.wrap ((Go.bits .and .u64 ((IntKind.u64.wrap ((Go.bits .and .u64 (a0 / 2) 6148914691236517205) + (Go.bits .and .u64 a0 6148914691236517205))) / 4) 3689348814741910323) + (Go.bits .and .u64 (IntKind.u64.wrap ((Go.bits .and .u64 (a0 / 2) 6148914691236517205) + (Go.bits .and .u64 a0 6148914691236517205))) 3689348814741910323))))) 1085102592571150095) + ((Go.bits .and .u64 (IntKind.u64.wrap (((IntKind.u64.wrap ((Go.bits .and .u64 ((IntKind.u64.wrap ((Go.bits .and .u64 (a0 / 2) 6148914691236517205) + (Go.bits .and .u64 a0 6148914691236517205))) / 4) 3689348814741910323) + (Go.bits .and .u64 (IntKind.u64.wrap ((Go.bits .and .u64 (a0 / 2) 6148914691236517205) + (Go.bits .and .u64 a0 6148914691236517205))) 3689348814741910323))) / 16) + (IntKind.u64.wrap ((Go.bits .and .u64 ((IntKind.u64.wrap ((Go.bits .and .u64 (a0 / 2) 6148914691236517205) + (Go.bits .and .u64 a0 6148914691236517205))) / 4) 3689348814741910323) + (Go.bits .and .u64 (IntKind.u64.wrap ((Go.bits .and .u64 (a0 / 2) 6148914691236517205) + (Go.bits .and .u64 a0 6148914691236517205))) 3689348814741910323))))) 1085102592571150095) / 256))) + ((IntKind.u64.wrap ((Go.bits .and .u64 (IntKind.u64.wrap (((IntKind.u64.wrap ((Go.bits .and .u64 ((IntKind.u64.wrap ((Go.bits .and .u64 (a0 / 2) 6148914691236517205) + (Go.bits .and .u64 a0 6148914691236517205))) / 4) 3689348814741910323) + (Go.bits .and .u64 (IntKind.u64.wrap ((Go.bits .and .u64 (a0 / 2) 6148914691236517205) + (Go.bits .and .u64 a0 6148914691236517205))) 3689348814741910323))) / 16) + (IntKind.u64.wrap ((Go.bits .and .u64 ((IntKind.u64.wrap ((Go.bits .and .u64 (a0 / 2) 6148914691236517205) + (Go.bits .and .u64 a0 6148914691236517205))) / 4) 3689348814741910323) + (Go.bits .and .u64 (IntKind.u64.wrap ((Go.bits .and .u64 (a0 / 2) 6148914691236517205) + (Go.bits .and .u64 a0 6148914691236517205))) 3689348814741910323))))) 1085102592571150095) + ((Go.bits .and .u64 (IntKind.u64.wrap (((IntKind.u64.wrap ((Go.bits .and .u64 ((IntKind.u64.wrap ((Go.bits .and .u64 (a0 / 2) 6148914691236517205) + (Go.bits .and .u64 a0 6148914691236517205))) / 4) 3689348814741910323) + (Go.bits .and .u64 (IntKind.u64.wrap ((Go.bits .and .u64 (a0 / 2) 6148914691236517205) + (Go.bits .and .u64 a0 6148914691236517205))) 3689348814741910323))) / 16) + (IntKind.u64.wrap ((Go.bits .and .u64 ((IntKind.u64.wrap ((Go.bits .and .u64 (a0 / 2) 6148914691236517205) + (Go.bits .and .u64 a0 6148914691236517205))) / 4) 3689348814741910323) + (Go.bits .and .u64 (IntKind.u64.wrap ((Go.bits .and .u64 (a0 / 2) 6148914691236517205) + (Go.bits .and .u64 a0 6148914691236517205))) 3689348814741910323))))) 1085102592571150095) / 256))) / 65536))) + ((IntKind.u64.wrap ((IntKind.u64.wrap ((Go.bits .and .u64 (IntKind.u64.wrap (((IntKind.u64.wrap ((Go.bits .and .u64 ((IntKind.u64.wrap ((Go.bits .and .u64 (a0 / 2) 6148914691236517205) + (Go.bits .and .u64 a0 6148914691236517205))) / 4) 3689348814741910323) + (Go.bits .and .u64 (IntKind.u64.wrap ((Go.bits .and .u64 (a0 / 2) 6148914691236517205) + (Go.bits .and .u64 a0 6148914691236517205))) 3689348814741910323))) / 16) + (IntKind.u64.wrap ((Go.bits .and .u64 ((IntKind.u64.wrap ((Go.bits .and .u64 (a0 / 2) 6148914691236517205) + (Go.bits .and .u64 a0 6148914691236517205))) / 4) 3689348814741910323) + (Go.bits .and .u64 (IntKind.u64.wrap ((Go.bits .and .u64 (a0 / 2) 6148914691236517205) + (Go.bits .and .u64 a0 6148914691236517205))) 3689348814741910323))))) 1085102592571150095) + ((Go.bits .and .u64 (IntKind.u64.wrap (((IntKind.u64.wrap ((Go.bits .and .u64 ((IntKind.u64.wrap ((Go.bits .and .u64 (a0 / 2) 6148914691236517205) + (Go.bits .and .u64 a0 6148914691236517205))) / 4) 3689348814741910323) + (Go.bits .and .u64 (IntKind.u64.wrap ((Go.bits .and .u64 (a0 / 2) 6148914691236517205) + (Go.bits .and .u64 a0 6148914691236517205))) 3689348814741910323))) / 16) + (IntKind.u64.wrap ((Go.bits .and .u64 ((IntKind.u64.wrap ((Go.bits .and .u64 (a0 / 2) 6148914691236517205) + (Go.bits .and .u64 a0 6148914691236517205))) / 4) 3689348814741910323) + (Go.bits .and .u64 (IntKind.u64.wrap ((Go.bits .and .u64 (a0 / 2) 6148914691236517205) + (Go.bits .and .u64 a0 6148914691236517205))) 3689348814741910323))))) 1085102592571150095) / 256))) + ((IntKind.u64.wrap ((Go.bits .and .u64 (IntKind.u64.wrap (((IntKind.u64.wrap ((Go.bits .and .u64 ((IntKind.u64.wrap ((Go.bits .and .u64 (a0 / 2) 6148914691236517205) + (Go.bits .and .u64 a0 6148914691236517205))) / 4) 3689348814741910323) + (Go.bits .and .u64 (IntKind.u64.wrap ((Go.bits .and .u64 (a0 / 2) 6148914691236517205) + (Go.bits .and .u64 a0 6148914691236517205))) 3689348814741910323))) / 16) + (IntKind.u64.wrap ((Go.bits .and .u64 ((IntKind.u64.wrap ((Go.bits .and .u64 (a0 / 2) 6148914691236517205) + (Go.bits .and .u64 a0 6148914691236517205))) / 4) 3689348814741910323) + (Go.bits .and .u64 (IntKind.u64.wrap ((Go.bits .and .u64 (a0 / 2) 6148914691236517205) + (Go.bits .and .u64 a0 6148914691236517205))) 3689348814741910323))))) 1085102592571150095) + ((Go.bits .and .u64 (IntKind.u64.wrap (((IntKind.u64.wrap ((Go.bits .and .u64 ((IntKind.u64.wrap ((Go.bits .and .u64 (a0 / 2) 6148914691236517205) + (Go.bits .and .u64 a0 6148914691236517205))) / 4) 3689348814741910323) + (Go.bits .and .u64 (IntKind.u64.wrap ((Go.bits .and .u64 (a0 / 2) 6148914691236517205) + (Go.bits .and .u64 a0 6148914691236517205))) 3689348814741910323))) / 16) + (IntKind.u64.wrap ((Go.bits .and .u64 ((IntKind.u64.wrap ((Go.bits .and .u64 (a0 / 2) 6148914691236517205) + (Go.bits .and .u64 a0 6148914691236517205))) / 4) 3689348814741910323) + (Go.bits .and .u64 (IntKind.u64.wrap ((Go.bits .and .u64 (a0 / 2) 6148914691236517205) + (Go.bits .and .u64 a0 6148914691236517205))) 3689348814741910323))))) 1085102592571150095) / 256))) / 65536))) / 4294967296)))) 127)
set_option maxHeartbeats 8000000 in
set_option maxRecDepth 100000 in
theorem ep.calls (a0 : Int) (r : Int) (w : World) (h : ep.f a0 = some r) :
  Calls Tryz.prog 132 #[.int .u64 a0] w fun e w' => e = .returned (.int .i64 r) ∧ aK w w' := by
 have H : (some (Go.bits .and .i64 (wrap64 (IntKind.u64.wrap ((IntKind.u64.wrap ((IntKind.u64.wrap ((Go.bits .and .u64 (IntKind.u64.wrap (((IntKind.u64.wrap ((Go.bits .and .u64 ((IntKind.u64.wrap ((Go.bits .and .u64 (a0 / 2) 6148914691236517205) + (Go.bits .and .u64 a0 6148914691236517205))) / 4) 3689348814741910323) + (Go.bits .and .u64 (IntKind.u64.wrap ((Go.bits .and .u64 (a0 / 2) 6148914691236517205) + (Go.bits .and .u64 a0 6148914691236517205))) 3689348814741910323))) / 16) + (IntKind.u64.wrap ((Go.bits .and .u64 ((IntKind.u64.wrap ((Go.bits .and .u64 (a0 / 2) 6148914691236517205) + (Go.bits .and .u64 a0 6148914691236517205))) / 4) 3689348814741910323) + (Go.bits .and .u64 (IntKind.u64.wrap ((Go.bits .and .u64 (a0 / 2) 6148914691236517205) + (Go.bits .and .u64 a0 6148914691236517205))) 3689348814741910323))))) 1085102592571150095) + ((Go.bits .and .u64 (IntKind.u64.wrap (((IntKind.u64.wrap ((Go.bits .and .u64 ((IntKind.u64.wrap ((Go.bits .and .u64 (a0 / 2) 6148914691236517205) + (Go.bits .and .u64 a0 6148914691236517205))) / 4) 3689348814741910323) + (Go.bits .and .u64 (IntKind.u64.wrap ((Go.bits .and .u64 (a0 / 2) 6148914691236517205) + (Go.bits .and .u64 a0 6148914691236517205))) 3689348814741910323))) / 16) + (IntKind.u64.wrap ((Go.bits .and .u64 ((IntKind.u64.wrap ((Go.bits .and .u64 (a0 / 2) 6148914691236517205) + (Go.bits .and .u64 a0 6148914691236517205))) / 4) 3689348814741910323) + (Go.bits .and .u64 (IntKind.u64.wrap ((Go.bits .and .u64 (a0 / 2) 6148914691236517205) + (Go.bits .and .u64 a0 6148914691236517205))) 3689348814741910323))))) 1085102592571150095) / 256))) + ((IntKind.u64.wrap ((Go.bits .and .u64 (IntKind.u64.wrap (((IntKind.u64.wrap ((Go.bits .and .u64 ((IntKind.u64.wrap ((Go.bits .and .u64 (a0 / 2) 6148914691236517205) + (Go.bits .and .u64 a0 6148914691236517205))) / 4) 3689348814741910323) + (Go.bits .and .u64 (IntKind.u64.wrap ((Go.bits .and .u64 (a0 / 2) 6148914691236517205) + (Go.bits .and .u64 a0 6148914691236517205))) 3689348814741910323))) / 16) + (IntKind.u64.wrap ((Go.bits .and .u64 ((IntKind.u64.wrap ((Go.bits .and .u64 (a0 / 2) 6148914691236517205) + (Go.bits .and .u64 a0 6148914691236517205))) / 4) 3689348814741910323) + (Go.bits .and .u64 (IntKind.u64.wrap ((Go.bits .and .u64 (a0 / 2) 6148914691236517205) + (Go.bits .and .u64 a0 6148914691236517205))) 3689348814741910323))))) 1085102592571150095) + ((Go.bits .and .u64 (IntKind.u64.wrap (((IntKind.u64.wrap ((Go.bits .and .u64 ((IntKind.u64.wrap ((Go.bits .and .u64 (a0 / 2) 6148914691236517205) + (Go.bits .and .u64 a0 6148914691236517205))) / 4) 3689348814741910323) + (Go.bits .and .u64 (IntKind.u64.wrap ((Go.bits .and .u64 (a0 / 2) 6148914691236517205) + (Go.bits .and .u64 a0 6148914691236517205))) 3689348814741910323))) / 16) + (IntKind.u64.wrap ((Go.bits .and .u64 ((IntKind.u64.wrap ((Go.bits .and .u64 (a0 / 2) 6148914691236517205) + (Go.bits .and .u64 a0 6148914691236517205))) / 4) 3689348814741910323) + (Go.bits .and .u64 (IntKind.u64.wrap ((Go.bits .and .u64 (a0 / 2) 6148914691236517205) + (Go.bits .and .u64 a0 6148914691236517205))) 3689348814741910323))))) 1085102592571150095) / 256))) / 65536))) + ((IntKind.u64.wrap ((IntKind.u64.wrap ((Go.bits .and .u64 (IntKind.u64.wrap (((IntKind.u64.wrap ((Go.bits .and .u64 ((IntKind.u64.wrap ((Go.bits .and .u64 (a0 / 2) 6148914691236517205) + (Go.bits .and .u64 a0 6148914691236517205))) / 4) 3689348814741910323) + (Go.bits .and .u64 (IntKind.u64.wrap ((Go.bits .and .u64 (a0 / 2) 6148914691236517205) + (Go.bits .and .u64 a0 6148914691236517205))) 3689348814741910323))) / 16) + (IntKind.u64.wrap ((Go.bits .and .u64 ((IntKind.u64.wrap ((Go.bits .and .u64 (a0 / 2) 6148914691236517205) + (Go.bits .and .u64 a0 6148914691236517205))) / 4) 3689348814741910323) + (Go.bits .and .u64 (IntKind.u64.wrap ((Go.bits .and .u64 (a0 / 2) 6148914691236517205) + (Go.bits .and .u64 a0 6148914691236517205))) 3689348814741910323))))) 1085102592571150095) + ((Go.bits .and .u64 (IntKind.u64.wrap (((IntKind.u64.wrap ((Go.bits .and .u64 ((IntKind.u64.wrap ((Go.bits .and .u64 (a0 / 2) 6148914691236517205) + (Go.bits .and .u64 a0 6148914691236517205))) / 4) 3689348814741910323) + (Go.bits .and .u64 (IntKind.u64.wrap ((Go.bits .and .u64 (a0 / 2) 6148914691236517205) + (Go.bits .and .u64 a0 6148914691236517205))) 3689348814741910323))) / 16) + (IntKind.u64.wrap ((Go.bits .and .u64 ((IntKind.u64.wrap ((Go.bits .and .u64 (a0 / 2) 6148914691236517205) + (Go.bits .and .u64 a0 6148914691236517205))) / 4) 3689348814741910323) + (Go.bits .and .u64 (IntKind.u64.wrap ((Go.bits .and .u64 (a0 / 2) 6148914691236517205) + (Go.bits .and .u64 a0 6148914691236517205))) 3689348814741910323))))) 1085102592571150095) / 256))) + ((IntKind.u64.wrap ((Go.bits .and .u64 (IntKind.u64.wrap (((IntKind.u64.wrap ((Go.bits .and .u64 ((IntKind.u64.wrap ((Go.bits .and .u64 (a0 / 2) 6148914691236517205) + (Go.bits .and .u64 a0 6148914691236517205))) / 4) 3689348814741910323) + (Go.bits .and .u64 (IntKind.u64.wrap ((Go.bits .and .u64 (a0 / 2) 6148914691236517205) + (Go.bits .and .u64 a0 6148914691236517205))) 3689348814741910323))) / 16) + (IntKind.u64.wrap ((Go.bits .and .u64 ((IntKind.u64.wrap ((Go.bits .and .u64 (a0 / 2) 6148914691236517205) + (Go.bits .and .u64 a0 6148914691236517205))) / 4) 3689348814741910323) + (Go.bits .and .u64 (IntKind.u64.wrap ((Go.bits .and .u64 (a0 / 2) 6148914691236517205) + (Go.bits .and .u64 a0 6148914691236517205))) 3689348814741910323))))) 1085102592571150095) + ((Go.bits .and .u64 (IntKind.u64.wrap (((IntKind.u64.wrap ((Go.bits .and .u64 ((IntKind.u64.wrap ((Go.bits .and .u64 (a0 / 2) 6148914691236517205) + (Go.bits .and .u64 a0 6148914691236517205))) / 4) 3689348814741910323) + (Go.bits .and .u64 (IntKind.u64.wrap ((Go.bits .and .u64 (a0 / 2) 6148914691236517205) + (Go.bits .and .u64 a0 6148914691236517205))) 3689348814741910323))) / 16) + (IntKind.u64.wrap ((Go.bits .and .u64 ((IntKind.u64.wrap ((Go.bits .and .u64 (a0 / 2) 6148914691236517205) + (Go.bits .and .u64 a0 6148914691236517205))) / 4) 3689348814741910323) + (Go.bits .and .u64 (IntKind.u64.wrap ((Go.bits .and .u64 (a0 / 2) 6148914691236517205) + (Go.bits .and .u64 a0 6148914691236517205))) 3689348814741910323))))) 1085102592571150095) / 256))) / 65536))) / 4294967296)))) 127)) = some r := h
 clear h
 obtain rfl := Option.some.inj H
 go_enter Tryz.func132, Tryz.ntmps132
 go_wp2
 go_ret
 exact ⟨by first | rfl | (simp; done) | (simp [*]; done), by repeat (first | exact aK.refl _ | apply aK.step)⟩
end Go.Proofs.YtmjlmloomkodpaaGreatDoor.PA
namespace Go.Proofs.YtmjlmloomkodpaaGreatDoor.PA
open Go.RowKit Go.Proofs.ae.aw Go.Proofs.ae.aJ Go.Proofs.ae.aN
attribute [local go_sem] bo bm bC bB a6 aZ bn bj
set_option linter.unusedVariables false
set_option linter.unusedSimpArgs false
def dV.f (a0 : Int) : Option (Int) := (ep.f a0).bind fun t338 => (some t338)
set_option maxHeartbeats 8000000 in
set_option maxRecDepth 100000 in
theorem dV.calls (a0 : Int) (r : Int) (w : World) (h : dV.f a0 = some r) :
  Calls Tryz.prog 98 #[.int .u64 a0] w fun e w' => e = .returned (.int .i64 r) ∧ aK w w' := by
 have H : ((ep.f a0).bind fun t338 => (some t338)) = some r := h
 clear h
 replace H := Option.bind_eq_some_iff.mp H
 obtain ⟨t338, A20, H⟩ := H
 replace H : (some t338) = some r := H
 have A2 := aa.mk A20
 clear A20
 obtain rfl := Option.some.inj H
 go_enter Tryz.func98, Tryz.ntmps98
 go_wp2_with (first | ((with_reducible refine az (f := 132) rfl ?_); refine bI (some 4) rfl rfl Tryz.func132 (by kernel_rfl) rfl #[.int .u64 a0] rfl (by (try simp only [List.map_toArray, List.map_cons, List.map_nil]); first | done | rfl | (simp only [List.length_drop, List.length_take]; rfl)) ?_; (with_reducible refine (ep.calls a0 t338 _ A2.out).mono ?_); rintro e w' ⟨rfl, ⟨nd, rfl⟩⟩; refine ⟨_, rfl, ?_⟩))
 go_ret
 exact ⟨by first | rfl | (simp; done) | (simp [*]; done), by repeat (first | exact aK.refl _ | apply aK.step)⟩
end Go.Proofs.YtmjlmloomkodpaaGreatDoor.PA
namespace Go.Proofs.YtmjlmloomkodpaaGreatDoor.PA
open Go.RowKit Go.Proofs.ae.aw Go.Proofs.ae.aJ Go.Proofs.ae.aN
attribute [local go_sem] bo bm bC bB a6 aZ bn bj
set_option linter.unusedVariables false
set_option linter.unusedSimpArgs false
def fk.f (a0 : Int) : Option (Bool) := (bL.f a0 0 100).bind fun t352 => (some t352)
set_option maxHeartbeats 8000000 in
set_option maxRecDepth 100000 in
theorem fk.calls (a0 : Int) (r : Bool) (w : World) (h : fk.f a0 = some r) :
  Calls Tryz.prog 99 #[.int .i64 a0] w fun e w' => e = .returned (.bool r) ∧ aK w w' := by
 have H : ((bL.f a0 0 100).bind fun t352 => (some t352)) = some r := h
 clear h
 replace H := Option.bind_eq_some_iff.mp H
 obtain ⟨t352, A20, H⟩ := H
 replace H : (some t352) = some r := H
 have A2 := aa.mk A20
 clear A20
 obtain rfl := Option.some.inj H
 go_enter Tryz.func99, Tryz.ntmps99
 go_wp2_with (first | ((with_reducible refine az (f := 96) rfl ?_); refine bI (some 4) rfl rfl Tryz.func96 (by kernel_rfl) rfl #[.int .i64 a0, .int .i64 0, .int .i64 100] rfl (by (try simp only [List.map_toArray, List.map_cons, List.map_nil]); first | done | rfl | (simp only [List.length_drop, List.length_take]; rfl)) ?_; (with_reducible refine (bL.calls a0 0 100 t352 _ A2.out).mono ?_); rintro e w' ⟨rfl, ⟨nd, rfl⟩⟩; refine ⟨_, rfl, ?_⟩))
 go_ret
 exact ⟨by first | rfl | (simp; done) | (simp [*]; done), by repeat (first | exact aK.refl _ | apply aK.step)⟩
end Go.Proofs.YtmjlmloomkodpaaGreatDoor.PA
namespace Go.Proofs.YtmjlmloomkodpaaGreatDoor.PA
open Go.RowKit Go.Proofs.ae.aw Go.Proofs.ae.aJ Go.Proofs.ae.aN
attribute [local go_sem] bo bm bC bB a6 aZ bn bj
set_option linter.unusedVariables false
set_option linter.unusedSimpArgs false
def fY.f (k : Nat) (a0_0 a0_1 : Int) (l0_2 l0_3 : List Int) (a0_4 : Int) (a0_5 : Bool) (a0_6 : Int) : Option Bool :=
 (dN.f a0_0 a0_1 l0_2 l0_3 a0_4 a0_5).bind fun b1 => if b1 = true then ((aI.f k a0_0 a0_1 l0_2 l0_3).bind fun s => (dV.f s).bind fun n => if a0_4 ≤ n then fk.f a0_6 else some false) else some false
set_option maxHeartbeats 8000000 in
set_option maxRecDepth 100000 in
theorem fY.calls (k : Nat) (a0_0 a0_1 : Int) (A0_2 : Option Addr) (c0_2 : Nat) (l0_2 : List Int) (A0_3 : Option Addr) (c0_3 : Nat) (l0_3 : List Int) (a0_4 : Int) (a0_5 : Bool) (a0_6 : Int) (r : Bool) (w : World) (ca : Kd.C (Kd.int .i64) w A0_2 l0_2.length l0_2) (bX : l0_2.length ≤ c0_2) (b0 : Kd.C (Kd.int .i64) w A0_3 l0_3.length l0_3) (bW : l0_3.length ≤ c0_3) (h : fY.f k a0_0 a0_1 l0_2 l0_3 a0_4 a0_5 a0_6 = some r) :
  Calls Tryz.prog 61 #[.agg #[.int .i64 a0_0, .int .i64 a0_1, .slice A0_2 l0_2.length c0_2, .slice A0_3 l0_3.length c0_3, .int .i64 a0_4, .bool a0_5, .int .i64 a0_6]] w fun e w' => e = .returned (.bool r) ∧ Below w.heap.size w w' := by
 obtain ⟨b1, hb1, h⟩ := Option.bind_eq_some_iff.mp h
 have H1 := aa.mk hb1
 have R2 := aa.mk ca
 have R3 := aa.mk b0
 clear hb1 ca b0
 go_enter Tryz.func61, Tryz.ntmps61
 go_wp2_with fail
 obtain ⟨W, hW⟩ : ∃ W, w.alloc (.cells #[.int .i64 a0_0, .int .i64 a0_1, .slice A0_2 l0_2.length c0_2, .slice A0_3 l0_3.length c0_3, .int .i64 a0_4, .bool a0_5, .int .i64 a0_6] 32) = W := ⟨_, rfl⟩
 have HBW := aa.mk (show Below w.heap.size w W by rw [← hW]; exact ag (Below.refl _ _) _)
 have hbk : W.heap[w.heap.size]? = some (.cells #[.int .i64 a0_0, .int .i64 a0_1, .slice A0_2 l0_2.length c0_2, .slice A0_3 l0_3.length c0_3, .int .i64 a0_4, .bool a0_5, .int .i64 a0_6] 32 (0, 0)) := by rw [← hW]; exact heap_alloc_new _ _
 rw [hW]
 have q0 := fun p => aY.cell (show W.cell? ⟨w.heap.size, 0, none⟩ = some (.int .i64 a0_0) from (ai hbk 0).trans rfl) p
 have q1 := fun p => aY.cell (show W.cell? ⟨w.heap.size, 1, none⟩ = some (.int .i64 a0_1) from (ai hbk 1).trans rfl) p
 have q2 := fun p => aY.cell (show W.cell? ⟨w.heap.size, 2, none⟩ = some (.slice A0_2 l0_2.length c0_2) from (ai hbk 2).trans rfl) p
 have q3 := fun p => aY.cell (show W.cell? ⟨w.heap.size, 3, none⟩ = some (.slice A0_3 l0_3.length c0_3) from (ai hbk 3).trans rfl) p
 have q4 := fun p => aY.cell (show W.cell? ⟨w.heap.size, 4, none⟩ = some (.int .i64 a0_4) from (ai hbk 4).trans rfl) p
 have q5 := fun p => aY.cell (show W.cell? ⟨w.heap.size, 5, none⟩ = some (.bool a0_5) from (ai hbk 5).trans rfl) p
 have q6 := fun p => aY.cell (show W.cell? ⟨w.heap.size, 6, none⟩ = some (.int .i64 a0_6) from (ai hbk 6).trans rfl) p
 clear hW hbk
 cases b1 with
 | false =>
  obtain rfl : r = false := (Option.some.inj h).symm
  clear h
  refine dz (by kernel_rfl) (by kernel_rfl) ?_
  repeat (go_big_quiet_step (first
    | (go_at_call 73; exact aY.ret (gr a0_0 a0_1 _ _ a0_4 a0_5 a0_6 _ ⟨_, _, _, rfl⟩ ⟨_, _, _, rfl⟩))
    | (go_at_call 97; exact aY.ret (dN.calls a0_0 a0_1 A0_2 c0_2 l0_2 A0_3 c0_3 l0_3 a0_4 a0_5 _ _ (dR R2.out HBW.out _) bX (dR R3.out HBW.out _) bW H1.out))))
  refine wpQuiet_nil ?_
  rintro w' ⟨p, rfl⟩
  go_wp2
  go_ret
  exact ⟨rfl, HBW.out.trans (p.h.mono HBW.out.size)⟩
 | true =>
  obtain ⟨s, hs, h⟩ := Option.bind_eq_some_iff.mp h
  obtain ⟨n, hn, h⟩ := Option.bind_eq_some_iff.mp h
  have HS := aa.mk hs
  have HN := aa.mk hn
  clear hs hn
  by_cases hle : a0_4 ≤ n
  ·rw [if_pos hle] at h
   have HQ := aa.mk h
   clear h
   refine dz (by kernel_rfl) (by kernel_rfl) ?_
   repeat (go_big_quiet_step (first
     | (go_at_call 73; exact aY.ret (gr a0_0 a0_1 _ _ a0_4 a0_5 a0_6 _ ⟨_, _, _, rfl⟩ ⟨_, _, _, rfl⟩))
     | (go_at_call 97; exact aY.ret (dN.calls a0_0 a0_1 A0_2 c0_2 l0_2 A0_3 c0_3 l0_3 a0_4 a0_5 _ _ (dR R2.out HBW.out _) bX (dR R3.out HBW.out _) bW H1.out))
     | (go_at_call 68; exact aY.ret (aI.calls k a0_0 a0_1 A0_2 c0_2 l0_2 A0_3 c0_3 l0_3 s _ (dR R2.out HBW.out _) bX (dR R3.out HBW.out _) bW HS.out))
     | (go_at_call 98; first | exact aY.ret (dV.calls s n _ HN.out) | exact aY.xK (dV.calls s n _ HN.out))
     | (go_at_call 99; first | exact aY.ret (fk.calls a0_6 r _ HQ.out) | exact aY.xK (fk.calls a0_6 r _ HQ.out))))
   refine wpQuiet_nil ?_
   rintro w' ⟨p, rfl⟩
   go_wp2
   go_ret
   exact ⟨rfl, HBW.out.trans (p.h.mono HBW.out.size)⟩
  ·rw [if_neg hle] at h
   obtain rfl : r = false := (Option.some.inj h).symm
   have hle' : ¬ a0_4 ≤ n := hle
   clear h
   refine dz (by kernel_rfl) (by kernel_rfl) ?_
   repeat (go_big_quiet_step (first
     | (go_at_call 73; exact aY.ret (gr a0_0 a0_1 _ _ a0_4 a0_5 a0_6 _ ⟨_, _, _, rfl⟩ ⟨_, _, _, rfl⟩))
     | (go_at_call 97; exact aY.ret (dN.calls a0_0 a0_1 A0_2 c0_2 l0_2 A0_3 c0_3 l0_3 a0_4 a0_5 _ _ (dR R2.out HBW.out _) bX (dR R3.out HBW.out _) bW H1.out))
     | (go_at_call 68; exact aY.ret (aI.calls k a0_0 a0_1 A0_2 c0_2 l0_2 A0_3 c0_3 l0_3 s _ (dR R2.out HBW.out _) bX (dR R3.out HBW.out _) bW HS.out))
     | (go_at_call 98; first | exact aY.ret (dV.calls s n _ HN.out) | exact aY.xK (dV.calls s n _ HN.out))))
   refine wpQuiet_nil ?_
   rintro w' ⟨p, rfl⟩
   go_wp2
   go_ret
   exact ⟨rfl, HBW.out.trans (p.h.mono HBW.out.size)⟩
end Go.Proofs.YtmjlmloomkodpaaGreatDoor.PA
namespace Go.Proofs.YtmjlmloomkodpaaGreatDoor.PA
open Go.RowKit Go.Proofs.ae.aw Go.Proofs.ae.aJ Go.Proofs.ae.aN
attribute [local go_sem] bo bm bC bB a6 aZ bn bj
set_option linter.unusedVariables false
set_option linter.unusedSimpArgs false
def dH.f (k : Nat) (a0_0 a0_1 : Int) (l0_2 l0_3 : List Int) (a0_4 : Int) (a0_5 : Bool) (a0_6 : Int) : Option (List (S28) × Bool) :=
 (fY.f k a0_0 a0_1 l0_2 l0_3 a0_4 a0_5 a0_6).bind fun ok => if ok = true then ((fX.f k a0_0 a0_1 l0_2 l0_3 a0_4 a0_5 a0_6 true).bind fun list => if (list.length : Int) > 150 then some ([], false) else (dX.f k a0_0 a0_1 list).bind fun figs => some (figs, true)) else some ([], false)
set_option maxHeartbeats 8000000 in
set_option maxRecDepth 100000 in
theorem dH.calls (k : Nat) (a0_0 a0_1 : Int) (A0_2 : Option Addr) (c0_2 : Nat) (l0_2 : List Int) (A0_3 : Option Addr) (c0_3 : Nat) (l0_3 : List Int) (a0_4 : Int) (a0_5 : Bool) (a0_6 : Int) (r1 : List (S28)) (r2 : Bool) (w : World) (hT : ej w) (ca : Kd.C (Kd.int .i64) w A0_2 l0_2.length l0_2) (bX : l0_2.length ≤ c0_2) (b0 : Kd.C (Kd.int .i64) w A0_3 l0_3.length l0_3) (bW : l0_3.length ≤ c0_3) (h : dH.f k a0_0 a0_1 l0_2 l0_3 a0_4 a0_5 a0_6 = some (r1, r2)) :
  Calls Tryz.prog 47 #[.agg #[.int .i64 a0_0, .int .i64 a0_1, .slice A0_2 l0_2.length c0_2, .slice A0_3 l0_3.length c0_3, .int .i64 a0_4, .bool a0_5, .int .i64 a0_6]] w fun e w' => ∃ v0_ : Value, e = .returned (.tuple #[v0_, .bool r2]) ∧ Kd.S k28 28 w' w.heap.size (fun _ => True) v0_ r1 ∧ Below w.heap.size w w' := by
 obtain ⟨ok, hok, h⟩ := Option.bind_eq_some_iff.mp h
 have HOK := aa.mk hok
 have R2 := aa.mk ca
 have R3 := aa.mk b0
 have HT := aa.mk hT
 clear hok ca b0 hT
 go_enter Tryz.func47, Tryz.ntmps47
 go_wp2_with fail
 obtain ⟨W, hW⟩ : ∃ W, w.alloc (.cells #[.int .i64 a0_0, .int .i64 a0_1, .slice A0_2 l0_2.length c0_2, .slice A0_3 l0_3.length c0_3, .int .i64 a0_4, .bool a0_5, .int .i64 a0_6] 32) = W := ⟨_, rfl⟩
 have HBW := aa.mk (show Below w.heap.size w W by rw [← hW]; exact ag (Below.refl _ _) _)
 have HBK := aa.mk (show W.heap[w.heap.size]? = some (.cells #[.int .i64 a0_0, .int .i64 a0_1, .slice A0_2 l0_2.length c0_2, .slice A0_3 l0_3.length c0_3, .int .i64 a0_4, .bool a0_5, .int .i64 a0_6] 32 (0, 0)) by rw [← hW]; exact heap_alloc_new _ _)
 rw [hW]
 clear hW
 refine (fY.calls k a0_0 a0_1 A0_2 c0_2 l0_2 A0_3 c0_3 l0_3 a0_4 a0_5 a0_6 ok W (Kd.ax R2.out HBW.out) bX (Kd.ax R3.out HBW.out) bW HOK.out).mono ?_
 rintro e w1 ⟨rfl, hb1⟩
 have HB1 := aa.mk (HBW.out.trans (hb1.mono HBW.out.size))
 have HK1 := aa.mk ((hb1.block _ (a7 HBK.out)).trans HBK.out)
 clear hb1
 cases ok with
 | false =>
  obtain ⟨rfl, rfl⟩ := Prod.mk.inj (Option.some.inj h)
  clear h
  go_wp2
  refine bodyPost_ret (v := .tuple #[.slice none 0 0, .bool false]) (by simp [results, Tryz.results47, go_sem]) rfl ?_
  exact ⟨_, rfl, Kd.km _ _ _ _ _, HB1.out⟩
 | true =>
  obtain ⟨list, hlist, h⟩ := Option.bind_eq_some_iff.mp h
  have HL := aa.mk hlist
  have H := aa.mk h
  clear hlist h
  go_wp2_with fail
  have q0 := fun p => aY.cell (show w1.cell? ⟨w.heap.size, 0, none⟩ = some (.int .i64 a0_0) from (ai HK1.out 0).trans rfl) p
  have q1 := fun p => aY.cell (show w1.cell? ⟨w.heap.size, 1, none⟩ = some (.int .i64 a0_1) from (ai HK1.out 1).trans rfl) p
  have q2 := fun p => aY.cell (show w1.cell? ⟨w.heap.size, 2, none⟩ = some (.slice A0_2 l0_2.length c0_2) from (ai HK1.out 2).trans rfl) p
  have q3 := fun p => aY.cell (show w1.cell? ⟨w.heap.size, 3, none⟩ = some (.slice A0_3 l0_3.length c0_3) from (ai HK1.out 3).trans rfl) p
  have q4 := fun p => aY.cell (show w1.cell? ⟨w.heap.size, 4, none⟩ = some (.int .i64 a0_4) from (ai HK1.out 4).trans rfl) p
  have q5 := fun p => aY.cell (show w1.cell? ⟨w.heap.size, 5, none⟩ = some (.bool a0_5) from (ai HK1.out 5).trans rfl) p
  have q6 := fun p => aY.cell (show w1.cell? ⟨w.heap.size, 6, none⟩ = some (.int .i64 a0_6) from (ai HK1.out 6).trans rfl) p
  refine iW 4 (by kernel_rfl) (by kernel_rfl) ?_
  simp only [List.take_succ_cons, List.take_zero, List.drop_succ_cons, List.drop_zero]
  repeat (go_big_quiet_step ((go_at_call 73; exact aY.ret (gr a0_0 a0_1 _ _ a0_4 a0_5 a0_6 _ ⟨_, _, _, rfl⟩ ⟨_, _, _, rfl⟩))))
  refine wpQuiet_nil ?_
  intro p
  clear q0 q1 q2 q3 q4 q5 q6
  have HBP := aa.mk (HB1.out.trans (p.h.mono HB1.out.size))
  have HKP := aa.mk ((p.h.block _ (a7 HK1.out)).trans HK1.out)
  have HW := aa.mk (fX.calls k a0_0 a0_1 A0_2 c0_2 l0_2 A0_3 c0_3 l0_3 a0_4 a0_5 a0_6 true list p.w (HT.out.below HBP.out) (Kd.ax R2.out HBP.out) bX (Kd.ax R3.out HBP.out) bW HL.out)
  have h := H.out
  by_cases hbig : (list.length : Int) > 150
  ·rw [if_pos hbig] at h
   obtain ⟨rfl, rfl⟩ := Prod.mk.inj (Option.some.inj h)
   clear h
   have hbig' : (150 : Int) < (list.length : Int) := hbig
   go_wp2_with (go_at_call 74; refine HW.out.mono ?_; rintro e w2 ⟨v, rfl, ho, hb⟩; obtain ⟨AL, cL, hv⟩ := Kd.bE ho; subst hv; have HO := aa.mk ho; have HB2 := aa.mk (HBP.out.trans (hb.mono HBP.out.size)); have HK2 := aa.mk ((hb.block _ (a7 HKP.out)).trans HKP.out); have g0 : w2.cell? ⟨w.heap.size, 0, none⟩ = some (.int .i64 a0_0) := (ai HK2.out 0).trans rfl; have g1 : w2.cell? ⟨w.heap.size, 1, none⟩ = some (.int .i64 a0_1) := (ai HK2.out 1).trans rfl; have g2 : w2.cell? ⟨w.heap.size, 2, none⟩ = some (.slice A0_2 l0_2.length c0_2) := (ai HK2.out 2).trans rfl; have g3 : w2.cell? ⟨w.heap.size, 3, none⟩ = some (.slice A0_3 l0_3.length c0_3) := (ai HK2.out 3).trans rfl; clear ho hb)
   refine bodyPost_ret (v := .tuple #[.slice none 0 0, .bool false]) (by simp [results, Tryz.results47, go_sem]) rfl ?_
   exact ⟨_, rfl, Kd.km _ _ _ _ _, HB2.out⟩
  ·rw [if_neg hbig] at h
   obtain ⟨figs, hf, h⟩ := Option.bind_eq_some_iff.mp h
   obtain ⟨rfl, rfl⟩ := Prod.mk.inj (Option.some.inj h)
   have HF := aa.mk hf
   clear h hf
   have hbig' : ¬ (150 : Int) < (list.length : Int) := hbig
   go_wp2_with (first
    | (go_at_call 74; refine HW.out.mono ?_; rintro e w2 ⟨v, rfl, ho, hb⟩; obtain ⟨AL, cL, hv⟩ := Kd.bE ho; subst hv; have HO := aa.mk ho; have HB2 := aa.mk (HBP.out.trans (hb.mono HBP.out.size)); have HK2 := aa.mk ((hb.block _ (a7 HKP.out)).trans HKP.out); have g0 : w2.cell? ⟨w.heap.size, 0, none⟩ = some (.int .i64 a0_0) := (ai HK2.out 0).trans rfl; have g1 : w2.cell? ⟨w.heap.size, 1, none⟩ = some (.int .i64 a0_1) := (ai HK2.out 1).trans rfl; have g2 : w2.cell? ⟨w.heap.size, 2, none⟩ = some (.slice A0_2 l0_2.length c0_2) := (ai HK2.out 2).trans rfl; have g3 : w2.cell? ⟨w.heap.size, 3, none⟩ = some (.slice A0_3 l0_3.length c0_3) := (ai HK2.out 3).trans rfl; clear ho hb)
    | (go_at_call 39; refine (bN.calls a0_0 a0_1 A0_2 c0_2 l0_2 A0_3 c0_3 l0_3 a0_0 a0_1 w2 (Kd.ax R2.out HB2.out) bX (Kd.ax R3.out HB2.out) bW rfl).mono ?_; rintro e w3 ⟨rfl, hb3⟩; have HB3 := aa.mk (HB2.out.trans (hb3.mono HB2.out.size)); have HL3 := aa.mk (Kd.ax (gM HO.out) hb3); clear hb3)
    | (go_at_call 75; refine (dX.calls k a0_0 a0_1 AL cL list figs w3 (HT.out.below HB3.out) HL3.out (Kd.bZ HO.out).2.1 HF.out).mono ?_; rintro e w4 ⟨v, rfl, ho4, hb4⟩; obtain ⟨A4, c4, hv4⟩ := Kd.nm ho4; subst hv4; have HO4 := aa.mk (Kd.pe ho4 HB3.out.size); have HB4 := aa.mk (HB3.out.trans (hb4.mono HB3.out.size)); clear ho4 hb4))
   refine bodyPost_ret (v := .tuple #[.slice A4 figs.length c4, .bool true]) (by simp [results, Tryz.results47, go_sem]) rfl ?_
   exact ⟨_, rfl, HO4.out, HB4.out⟩
end Go.Proofs.YtmjlmloomkodpaaGreatDoor.PA
namespace Go.Proofs.YtmjlmloomkodpaaGreatDoor.PA
open Go.RowKit Go.Proofs.ae.aw Go.Proofs.ae.aJ Go.Proofs.ae.aN
attribute [local go_sem] bo bm bC bB a6 aZ bn bj
set_option linter.unusedVariables false
set_option linter.unusedSimpArgs false
def cm.l0 : Nat → Int → Int → List (S28) → Int → Int → Option (Int × Int × Bool)
 | 0, _, _, _, _, _ => none
 | k + 1, x7, x8, x26, x27, x28 => if x28 < x27 then (if 0 ≤ x28 then (if x28 < (x26.length : Int) then ((aI.f k ((bJ x26 x28).f0) ((bJ x26 x28).f1) ((bJ x26 x28).f2) ((bJ x26 x28).f3)).bind fun t144 => ((aI.f k ((bJ x26 x28).f0) ((bJ x26 x28).f1) ((bJ x26 x28).f2) ((bJ x26 x28).f3)).bind fun t145 => (cm.l0 k (Go.bits .and .u64 x7 t144) (Go.bits .andNot .u64 x8 t145) x26 x27 (wrap64 (x28 + 1))))) else (none)) else (none)) else (some (x7, x8, true))
def cm.f (k : Nat) (a0_0 : Int) (a0_1 : Int) (l0_2 : List Int) (l0_3 : List Int) (a0_4 : Int) (a0_5 : Bool) (a0_6 : Int) : Option (Int × Int × Bool) := (dH.f k a0_0 a0_1 l0_2 l0_3 a0_4 a0_5 a0_6).bind fun bt134 => (if (bt134.1.length : Int) = 0 then (some (0, 0, false)) else ((bN.f a0_0 a0_1 l0_2 l0_3).bind fun bt138 => ((cj.f bt138.1 bt138.2).bind fun t140 => ((aI.f k a0_0 a0_1 l0_2 l0_3).bind fun t141 => (cm.l0 k t140 t141 bt134.1 (bt134.1.length : Int) 0)))))
def cm.T4 : Bool × List (List Nat × List Nat) := (true, [([], []), ([0], [0]), ([1], [1]), ([2, 2], [2]), ([], []), ([4], [4]), ([5, 3], [5]), ([3, 6, 0, 1, 2, 3], [3]), ([6, 7, 0, 1, 2, 3, 4, 5, 6, 7], [6])])
def cm.B4 : List Nat := [0, 1, 3, 7, 0, 16, 63, 127, 255]
theorem cm.tab4 : iw .any (opsOf Tryz.f38 4) = cm.T4 := by kernel_rfl
theorem cm.EN : gL cm.T4.2 cm.B4 = true := by kernel_rfl
set_option maxHeartbeats 8000000 in
set_option maxRecDepth 100000 in
theorem cm.calls (k : Nat) (a0_0 : Int) (a0_1 : Int) (A0_2 : Option Addr) (c0_2 : Nat) (l0_2 : List Int) (A0_3 : Option Addr) (c0_3 : Nat) (l0_3 : List Int) (a0_4 : Int) (a0_5 : Bool) (a0_6 : Int) (r1 : Int) (r2 : Int) (r3 : Bool) (w : World) (hT : ej w) (ca : Kd.C (Kd.int .i64) w A0_2 l0_2.length l0_2) (bX : l0_2.length ≤ c0_2) (b0 : Kd.C (Kd.int .i64) w A0_3 l0_3.length l0_3) (bW : l0_3.length ≤ c0_3) (h : cm.f k a0_0 a0_1 l0_2 l0_3 a0_4 a0_5 a0_6 = some (r1, r2, r3)) :
  Calls Tryz.prog 38 #[.agg #[.int .i64 a0_0, .int .i64 a0_1, .slice A0_2 l0_2.length c0_2, .slice A0_3 l0_3.length c0_3, .int .i64 a0_4, .bool a0_5, .int .i64 a0_6]] w fun e w' => e = .returned (.tuple #[.int .u64 r1, .int .u64 r2, .bool r3]) ∧ Below w.heap.size w w' := by
 have hu32 := Tryz.underlying32
 have hu28 := Tryz.underlying28
 have cy := aa.mk ca
 have cD := aa.mk bX
 clear ca bX
 have cF := aa.mk b0
 have cK := aa.mk bW
 clear b0 bW
 have HT := aa.mk hT
 clear hT
 have HB := aa.mk (Below.refl w.heap.size w)
 have H : ((dH.f k a0_0 a0_1 l0_2 l0_3 a0_4 a0_5 a0_6).bind fun bt134 => (if (bt134.1.length : Int) = 0 then (some (0, 0, false)) else ((bN.f a0_0 a0_1 l0_2 l0_3).bind fun bt138 => ((cj.f bt138.1 bt138.2).bind fun t140 => ((aI.f k a0_0 a0_1 l0_2 l0_3).bind fun t141 => (cm.l0 k t140 t141 bt134.1 (bt134.1.length : Int) 0)))))) = some (r1, r2, r3) := h
 clear h
 replace H := Option.bind_eq_some_iff.mp H
 obtain ⟨⟨t134, t137⟩, A20, H⟩ := H
 replace H : (if (t134.length : Int) = 0 then (some (0, 0, false)) else ((bN.f a0_0 a0_1 l0_2 l0_3).bind fun bt138 => ((cj.f bt138.1 bt138.2).bind fun t140 => ((aI.f k a0_0 a0_1 l0_2 l0_3).bind fun t141 => (cm.l0 k t140 t141 t134 (t134.length : Int) 0))))) = some (r1, r2, r3) := H
 have A2 := aa.mk A20
 clear A20
 by_cases c3 : (t134.length : Int) = 0
 ·rw [if_pos c3] at H
  have c3b0 : ((t134.length : Int) == 0) = true := beq_iff_eq.mpr c3
  have c3b1 : ((t134.length : Int) != 0) = false := bne_eq_false_iff_eq.mpr c3
  clear c3
  simp only [Option.some.injEq, Prod.mk.injEq] at H
  obtain ⟨rfl, rfl, rfl⟩ := H
  go_enter Tryz.func38, Tryz.ntmps38
  go_wp2_with (first | ((with_reducible refine aV (N := 1) rfl ?_); refine aM ?hg (N := 1) ?hd (cs := #[.int .i64 a0_0, .int .i64 a0_1, .slice A0_2 l0_2.length c0_2, .slice A0_3 l0_3.length c0_3, .int .i64 a0_4, .bool a0_5, .int .i64 a0_6]) (t := 32) ?hr ?_; (case hd => rfl); (case hg => rfl); (case hr => first | (go_simp; done) | (go_simp; rfl)); intro dZ hg w4 hbox hb; have n0_ := aa.mk (ar (by repeat (first | (with_reducible first | exact HB.out | apply ag | apply af | apply ah) | exact HB.out)) hb); have n1_ := aa.mk (hbox); have n2_ := aa.mk ((by rw [hg]; exact (aq (by repeat (first | (with_reducible first | exact HB.out | apply ag | apply af | apply ah) | exact HB.out))) : w.heap.size ≤ dZ)); have n3_ := aa.mk ((by rw [hg]; exact (aq (by repeat (first | (with_reducible first | exact HB.out | apply ag | apply af | apply ah) | exact HB.out))) : w.heap.size ≤ dZ)); clear HB; have HB := n0_; have cg := n1_; have Gd := n2_; have iu := n3_; clear n0_ n1_ n2_ n3_; clear hb hbox hg; have sv : w4.cell? ⟨dZ, 0, none⟩ = some (.int .i64 a0_0) := (ai cg.out 0).trans rfl; have su : w4.cell? ⟨dZ, 1, none⟩ = some (.int .i64 a0_1) := (ai cg.out 1).trans rfl; have so : w4.cell? ⟨dZ, 2, none⟩ = some (.slice A0_2 l0_2.length c0_2) := (ai cg.out 2).trans rfl; have sm : w4.cell? ⟨dZ, 3, none⟩ = some (.slice A0_3 l0_3.length c0_3) := (ai cg.out 3).trans rfl; have DG : w4.cell? ⟨dZ, 4, none⟩ = some (.int .i64 a0_4) := (ai cg.out 4).trans rfl; have DF : w4.cell? ⟨dZ, 5, none⟩ = some (.bool a0_5) := (ai cg.out 5).trans rfl; have DE : w4.cell? ⟨dZ, 6, none⟩ = some (.int .i64 a0_6) := (ai cg.out 6).trans rfl; have rT := aj cg.out 0; have rS := aj cg.out 1; have rR := aj cg.out 2; have rQ := aj cg.out 3; have DA := aj cg.out 4; have Dz := aj cg.out 5; have Dy := aj cg.out 6) | ((with_reducible refine az (f := 47) rfl ?_); refine bI (some 13) rfl rfl Tryz.func47 (by kernel_rfl) rfl #[.agg #[.int .i64 a0_0, .int .i64 a0_1, .slice A0_2 l0_2.length c0_2, .slice A0_3 l0_3.length c0_3, .int .i64 a0_4, .bool a0_5, .int .i64 a0_6]] rfl (by (try simp only [List.map_toArray, List.map_cons, List.map_nil]); first | done | rfl | (simp only [List.length_drop, List.length_take]; rfl)) ?_; (with_reducible refine (dH.calls k a0_0 a0_1 _ _ l0_2 _ _ l0_3 a0_4 a0_5 a0_6 t134 t137 _ ?side1 ?side2 ?side3 ?side4 ?side5 A2.out).mono ?_); (case side1 => exact ej.below HT.out (by repeat (first | (with_reducible first | exact HB.out | apply ag | apply af | apply ah | refine ak ?_ iu.out) | exact HB.out))); (case side2 => repeat (first | exact (Kd.ax cy.out HB.out) | (with_reducible refine Kd.aX ?_ _) | (with_reducible refine Kd.aW ?_ _) | (with_reducible refine Kd.bh ?_))); (case side3 => exact cD.out); (case side4 => repeat (first | exact (Kd.ax cF.out HB.out) | (with_reducible refine Kd.aX ?_ _) | (with_reducible refine Kd.aW ?_ _) | (with_reducible refine Kd.bh ?_))); (case side5 => exact cK.out); rintro e w6 ⟨v135, rfl, ho0, hb⟩; refine ⟨_, rfl, ?_⟩; have n0_ := aa.mk (Kd.pe ho0 (aq (by repeat (first | (with_reducible first | exact HB.out | apply ag | apply af | apply ah | refine ak ?_ iu.out) | exact HB.out)))); have n1_ := aa.mk (aD (g := dZ) (o := .cells #[.int .i64 a0_0, .int .i64 a0_1, .slice A0_2 l0_2.length c0_2, .slice A0_3 l0_3.length c0_3, .int .i64 a0_4, .bool a0_5, .int .i64 a0_6] 32 (0, 0)) (by (with_reducible repeat (first | refine al ?_ _ | refine ao ?_ | refine an ?_ _)); exact cg.out) hb); have n2_ := aa.mk (ar (by repeat (first | (with_reducible first | exact HB.out | apply ag | apply af | apply ah | refine ak ?_ iu.out) | exact HB.out)) hb); clear cg; clear HB; have ja := n0_; have cg := n1_; have HB := n2_; clear n0_ n1_ n2_; (try clear hb); (try clear hb2); (try clear hk); (try clear hi); (try clear ho0); obtain ⟨Ao7, co7, eo7⟩ := Kd.nm ja.out; subst eo7))
  go_ret3
  exact ⟨by first | rfl | (simp [av, au] <;> rfl) | (simp [*, av, au] <;> rfl), by repeat (first | (with_reducible first | exact HB.out | apply ag | apply af | apply ah | refine ak ?_ iu.out) | exact HB.out)⟩
 ·rw [if_neg c3] at H
  have c3b0 : ((t134.length : Int) == 0) = false := beq_eq_false_iff_ne.mpr c3
  have c3b1 : ((t134.length : Int) != 0) = true := bne_iff_ne.mpr c3
  have c3b2 : ¬ (t134 = []) := fun h_ => c3 (by rw [h_]; rfl)
  replace H := Option.bind_eq_some_iff.mp H
  obtain ⟨⟨t138, t139⟩, A80, H⟩ := H
  replace H : ((cj.f t138 t139).bind fun t140 => ((aI.f k a0_0 a0_1 l0_2 l0_3).bind fun t141 => (cm.l0 k t140 t141 t134 (t134.length : Int) 0))) = some (r1, r2, r3) := H
  have A8 := aa.mk A80
  clear A80
  replace H := Option.bind_eq_some_iff.mp H
  obtain ⟨t140, A90, H⟩ := H
  replace H : ((aI.f k a0_0 a0_1 l0_2 l0_3).bind fun t141 => (cm.l0 k t140 t141 t134 (t134.length : Int) 0)) = some (r1, r2, r3) := H
  have A9 := aa.mk A90
  clear A90
  replace H := Option.bind_eq_some_iff.mp H
  obtain ⟨t141, A100, H⟩ := H
  replace H : (cm.l0 k t140 t141 t134 (t134.length : Int) 0) = some (r1, r2, r3) := H
  have A10 := aa.mk A100
  clear A100
  have H' := aa.mk H
  clear H
  go_enter Tryz.func38, Tryz.ntmps38
  try go_wp2_with (first | ((with_reducible refine aV (N := 1) rfl ?_); refine aM ?hg (N := 1) ?hd (cs := #[.int .i64 a0_0, .int .i64 a0_1, .slice A0_2 l0_2.length c0_2, .slice A0_3 l0_3.length c0_3, .int .i64 a0_4, .bool a0_5, .int .i64 a0_6]) (t := 32) ?hr ?_; (case hd => rfl); (case hg => rfl); (case hr => first | (go_simp; done) | (go_simp; rfl)); intro dZ hg w11 hbox hb; have n0_ := aa.mk (ar (by repeat (first | (with_reducible first | exact HB.out | apply ag | apply af | apply ah) | exact HB.out)) hb); have n1_ := aa.mk (hbox); have n2_ := aa.mk ((by rw [hg]; exact (aq (by repeat (first | (with_reducible first | exact HB.out | apply ag | apply af | apply ah) | exact HB.out))) : w.heap.size ≤ dZ)); have n3_ := aa.mk ((by rw [hg]; exact (aq (by repeat (first | (with_reducible first | exact HB.out | apply ag | apply af | apply ah) | exact HB.out))) : w.heap.size ≤ dZ)); clear HB; have HB := n0_; have cg := n1_; have Gd := n2_; have iu := n3_; clear n0_ n1_ n2_ n3_; clear hb hbox hg; have iQ : w11.cell? ⟨dZ, 0, none⟩ = some (.int .i64 a0_0) := (ai cg.out 0).trans rfl; have iP : w11.cell? ⟨dZ, 1, none⟩ = some (.int .i64 a0_1) := (ai cg.out 1).trans rfl; have iM : w11.cell? ⟨dZ, 2, none⟩ = some (.slice A0_2 l0_2.length c0_2) := (ai cg.out 2).trans rfl; have iL : w11.cell? ⟨dZ, 3, none⟩ = some (.slice A0_3 l0_3.length c0_3) := (ai cg.out 3).trans rfl; have sJ : w11.cell? ⟨dZ, 4, none⟩ = some (.int .i64 a0_4) := (ai cg.out 4).trans rfl; have sI : w11.cell? ⟨dZ, 5, none⟩ = some (.bool a0_5) := (ai cg.out 5).trans rfl; have sH : w11.cell? ⟨dZ, 6, none⟩ = some (.int .i64 a0_6) := (ai cg.out 6).trans rfl; have iK := aj cg.out 0; have iJ := aj cg.out 1; have iI := aj cg.out 2; have iH := aj cg.out 3; have sf := aj cg.out 4; have sd := aj cg.out 5; have sc := aj cg.out 6) | ((with_reducible refine az (f := 47) rfl ?_); refine bI (some 13) rfl rfl Tryz.func47 (by kernel_rfl) rfl #[.agg #[.int .i64 a0_0, .int .i64 a0_1, .slice A0_2 l0_2.length c0_2, .slice A0_3 l0_3.length c0_3, .int .i64 a0_4, .bool a0_5, .int .i64 a0_6]] rfl (by (try simp only [List.map_toArray, List.map_cons, List.map_nil]); first | done | rfl | (simp only [List.length_drop, List.length_take]; rfl)) ?_; (with_reducible refine (dH.calls k a0_0 a0_1 _ _ l0_2 _ _ l0_3 a0_4 a0_5 a0_6 t134 t137 _ ?side1 ?side2 ?side3 ?side4 ?side5 A2.out).mono ?_); (case side1 => exact ej.below HT.out (by repeat (first | (with_reducible first | exact HB.out | apply ag | apply af | apply ah | refine ak ?_ iu.out) | exact HB.out))); (case side2 => repeat (first | exact (Kd.ax cy.out HB.out) | (with_reducible refine Kd.aX ?_ _) | (with_reducible refine Kd.aW ?_ _) | (with_reducible refine Kd.bh ?_))); (case side3 => exact cD.out); (case side4 => repeat (first | exact (Kd.ax cF.out HB.out) | (with_reducible refine Kd.aX ?_ _) | (with_reducible refine Kd.aW ?_ _) | (with_reducible refine Kd.bh ?_))); (case side5 => exact cK.out); rintro e w13 ⟨v135, rfl, ho0, hb⟩; refine ⟨_, rfl, ?_⟩; have n0_ := aa.mk (Kd.pe ho0 (aq (by repeat (first | (with_reducible first | exact HB.out | apply ag | apply af | apply ah | refine ak ?_ iu.out) | exact HB.out)))); have n1_ := aa.mk (aD (g := dZ) (o := .cells #[.int .i64 a0_0, .int .i64 a0_1, .slice A0_2 l0_2.length c0_2, .slice A0_3 l0_3.length c0_3, .int .i64 a0_4, .bool a0_5, .int .i64 a0_6] 32 (0, 0)) (by (with_reducible repeat (first | refine al ?_ _ | refine ao ?_ | refine an ?_ _)); exact cg.out) hb); have n2_ := aa.mk (ar (by repeat (first | (with_reducible first | exact HB.out | apply ag | apply af | apply ah | refine ak ?_ iu.out) | exact HB.out)) hb); clear cg; clear HB; have ja := n0_; have cg := n1_; have HB := n2_; clear n0_ n1_ n2_; (try clear hb); (try clear hb2); (try clear hk); (try clear hi); (try clear ho0); obtain ⟨fQ, fO, zp⟩ := Kd.nm ja.out; subst zp))
  have n0_ := aa.mk (Kd.kM ja.out)
  have n1_ := aa.mk (ao cg.out)
  have n2_ := aa.mk (ah HB.out)
  clear ja
  clear cg
  clear HB
  have ja := n0_
  have cg := n1_
  have HB := n2_
  clear n0_ n1_ n2_
  refine j6 (n := 9) (S := fun w' => w'.cell? ⟨dZ, 0, none⟩ = some (.int .i64 a0_0) ∧ w'.cell? ⟨dZ, 1, none⟩ = some (.int .i64 a0_1) ∧ w'.cell? ⟨dZ, 2, none⟩ = some (.slice A0_2 l0_2.length c0_2) ∧ w'.cell? ⟨dZ, 3, none⟩ = some (.slice A0_3 l0_3.length c0_3) ∧ w'.cell? ⟨dZ, 4, none⟩ = some (.int .i64 a0_4) ∧ w'.cell? ⟨dZ, 5, none⟩ = some (.bool a0_5) ∧ w'.cell? ⟨dZ, 6, none⟩ = some (.int .i64 a0_6)) (ds := []) #[false, false, false, false, false, false, false, false, false] (by kernel_rfl) rfl rfl ⟨(ai cg.out 0).trans rfl, (ai cg.out 1).trans rfl, (ai cg.out 2).trans rfl, (ai cg.out 3).trans rfl, (ai cg.out 4).trans rfl, (ai cg.out 5).trans rfl, (ai cg.out 6).trans rfl⟩ (fun hHeld => ?_); refine fS cm.tab4 cm.EN (fun HT_ HW_ => ?_)
  generalize w13.drew = w15 at ja cg HB hHeld ⊢
  refine bO (i := 0) (N := some 19) (v := ?_) (a' := ?_) #[true, false, false, false, false, false, false, false, false] rfl rfl (bx HT_.out (by kernel_rfl)) (fun _ _ _ h => h) (Or.inl ⟨by rfl, ?_⟩) ?_ ?_
  rotate_left
  ·intro w'
   go_simp
   with_reducible rfl
  rotate_left
  ·simp only [Act.put, List.setIfInBounds_toArray, List.set_cons_zero, List.set_cons_succ, a8, bf]
   rfl
  refine bO (i := 4) (N := some 23) (v := ?_) (a' := ?_) #[true, false, false, false, true, false, false, false, false] rfl rfl (bx HT_.out (by kernel_rfl)) (fun _ _ _ h => h) (Or.inl ⟨by rfl, ?_⟩) ?_ ?_
  rotate_left
  ·intro w'
   go_simp
   with_reducible rfl
  rotate_left
  ·simp only [Act.put, List.setIfInBounds_toArray, List.set_cons_zero, List.set_cons_succ, a8, bf]
   rfl
  refine eW (i := 1) (N := some 20) (v := ?_) (a' := ?_) #[true, true, false, false, true, false, false, false, false] rfl rfl (cV HT_.out HW_.out (by kernel_rfl)) (fun _ _ _ h => h) (Or.inl ⟨by rfl, ?_⟩) hHeld ?_ ?_
  rotate_left
  ·rintro w' ⟨s0, s1, s2, s3, s4, s5, s6⟩
   go_simp
   with_reducible rfl
  rotate_left
  ·simp only [Act.put, List.setIfInBounds_toArray, List.set_cons_zero, List.set_cons_succ, a8, bf]
   rfl
  refine eW (i := 5) (N := some 24) (v := ?_) (a' := ?_) #[true, true, false, false, true, true, false, false, false] rfl rfl (cV HT_.out HW_.out (by kernel_rfl)) (fun _ _ _ h => h) (Or.inl ⟨by rfl, ?_⟩) hHeld ?_ ?_
  rotate_left
  ·rintro w' ⟨s0, s1, s2, s3, s4, s5, s6⟩
   go_simp
   with_reducible rfl
  rotate_left
  ·simp only [Act.put, List.setIfInBounds_toArray, List.set_cons_zero, List.set_cons_succ, a8, bf]
   rfl
  refine jv (i := 2) (N := some 21) #[true, true, true, false, true, true, false, false, false] rfl rfl (eO HT_.out (by kernel_rfl)) (by decide) (fun K hK => ?_)
  refine gD Tryz.func39 (by kernel_rfl) rfl #[.agg #[.int .i64 a0_0, .int .i64 a0_1, .slice A0_2 l0_2.length c0_2, .slice A0_3 l0_3.length c0_3]] (by rfl) rfl rfl (by (try simp only [List.map_toArray, List.map_cons, List.map_nil]); first | done | rfl | (simp only [List.length_drop, List.length_take]; rfl)) ?_
  with_reducible refine (bN.calls a0_0 a0_1 _ _ l0_2 _ _ l0_3 t138 t139 _ ?side1 ?side2 ?side3 ?side4 A8.out).mono ?_
  (case side1 => repeat (first | exact (Kd.ax cy.out HB.out) | (with_reducible refine Kd.aX ?_ _) | (with_reducible refine Kd.aW ?_ _) | (with_reducible refine Kd.bh ?_)))
  (case side2 => exact cD.out)
  (case side3 => repeat (first | exact (Kd.ax cF.out HB.out) | (with_reducible refine Kd.aX ?_ _) | (with_reducible refine Kd.aW ?_ _) | (with_reducible refine Kd.bh ?_)))
  (case side4 => exact cK.out)
  rintro e w16 ⟨rfl, hb⟩
  refine ⟨_, rfl, ?_⟩
  have n0_ := aa.mk (Kd.j2 (by (with_reducible repeat (first | apply Kd.kN | apply Kd.kL | apply Kd.kM)); exact ja.out) hb)
  have n1_ := aa.mk (aD (g := dZ) (o := .cells #[.int .i64 a0_0, .int .i64 a0_1, .slice A0_2 l0_2.length c0_2, .slice A0_3 l0_3.length c0_3, .int .i64 a0_4, .bool a0_5, .int .i64 a0_6] 32 (0, 0)) (by (with_reducible repeat (first | refine al ?_ _ | refine ao ?_ | refine an ?_ _)); exact cg.out) hb)
  have n2_ := aa.mk (ar (by repeat (first | (with_reducible first | exact HB.out | apply ag | apply af | apply ah | refine ak ?_ iu.out) | exact HB.out)) hb)
  clear ja
  clear cg
  clear HB
  have ja := n0_
  have cg := n1_
  have HB := n2_
  clear n0_ n1_ n2_
  (try clear hb)
  (try clear hb2)
  (try clear hk)
  (try clear hi)
  refine hK.out _ _ ⟨(ai cg.out 0).trans rfl, (ai cg.out 1).trans rfl, (ai cg.out 2).trans rfl, (ai cg.out 3).trans rfl, (ai cg.out 4).trans rfl, (ai cg.out 5).trans rfl, (ai cg.out 6).trans rfl⟩ (fun hHeld => ?_)
  clear hK K
  refine gC (a' := ?_) ?_ ?_
  rotate_left
  ·show Act.put _ (some 21) _ = _
   simp only [Act.put, List.setIfInBounds_toArray, List.set_cons_zero, List.set_cons_succ, a8, bf]
   rfl
  refine jv (i := 3) (N := some 22) #[true, true, true, true, true, true, false, false, false] rfl rfl (eO HT_.out (by kernel_rfl)) (by decide) (fun K hK => ?_)
  refine gD Tryz.func67 (by kernel_rfl) rfl #[.agg #[.int .i64 t138, .int .i64 t139]] (by rfl) rfl rfl (by (try simp only [List.map_toArray, List.map_cons, List.map_nil]); first | done | rfl | (simp only [List.length_drop, List.length_take]; rfl)) ?_
  with_reducible refine (cj.calls t138 t139 t140 _ A9.out).mono ?_
  rintro e w17 ⟨rfl, hb⟩
  refine ⟨_, rfl, ?_⟩
  have n0_ := aa.mk (Kd.j2 (by (with_reducible repeat (first | apply Kd.kN | apply Kd.kL | apply Kd.kM)); exact ja.out) hb)
  have n1_ := aa.mk (aD (g := dZ) (o := .cells #[.int .i64 a0_0, .int .i64 a0_1, .slice A0_2 l0_2.length c0_2, .slice A0_3 l0_3.length c0_3, .int .i64 a0_4, .bool a0_5, .int .i64 a0_6] 32 (0, 0)) (by (with_reducible repeat (first | refine al ?_ _ | refine ao ?_ | refine an ?_ _)); exact cg.out) hb)
  have n2_ := aa.mk (ar (by repeat (first | (with_reducible first | exact HB.out | apply ag | apply af | apply ah | refine ak ?_ iu.out) | exact HB.out)) hb)
  clear ja
  clear cg
  clear HB
  have ja := n0_
  have cg := n1_
  have HB := n2_
  clear n0_ n1_ n2_
  (try clear hb)
  (try clear hb2)
  (try clear hk)
  (try clear hi)
  refine hK.out _ _ ⟨(ai cg.out 0).trans rfl, (ai cg.out 1).trans rfl, (ai cg.out 2).trans rfl, (ai cg.out 3).trans rfl, (ai cg.out 4).trans rfl, (ai cg.out 5).trans rfl, (ai cg.out 6).trans rfl⟩ (fun hHeld => ?_)
  clear hK K
  refine gC (a' := ?_) ?_ ?_
  rotate_left
  ·show Act.put _ (some 22) _ = _
   simp only [Act.put, List.setIfInBounds_toArray, List.set_cons_zero, List.set_cons_succ, a8, bf]
   rfl
  refine jv (i := 6) (N := some 25) #[true, true, true, true, true, true, true, false, false] rfl rfl (eO HT_.out (by kernel_rfl)) (by decide) (fun K hK => ?_)
  refine gD Tryz.func68 (by kernel_rfl) rfl #[.agg #[.int .i64 a0_0, .int .i64 a0_1, .slice A0_2 l0_2.length c0_2, .slice A0_3 l0_3.length c0_3]] (by rfl) rfl rfl (by (try simp only [List.map_toArray, List.map_cons, List.map_nil]); first | done | rfl | (simp only [List.length_drop, List.length_take]; rfl)) ?_
  with_reducible refine (aI.calls k a0_0 a0_1 _ _ l0_2 _ _ l0_3 t141 _ ?side1 ?side2 ?side3 ?side4 A10.out).mono ?_
  (case side1 => repeat (first | exact (Kd.ax cy.out HB.out) | (with_reducible refine Kd.aX ?_ _) | (with_reducible refine Kd.aW ?_ _) | (with_reducible refine Kd.bh ?_)))
  (case side2 => exact cD.out)
  (case side3 => repeat (first | exact (Kd.ax cF.out HB.out) | (with_reducible refine Kd.aX ?_ _) | (with_reducible refine Kd.aW ?_ _) | (with_reducible refine Kd.bh ?_)))
  (case side4 => exact cK.out)
  rintro e w18 ⟨rfl, hb⟩
  refine ⟨_, rfl, ?_⟩
  have n0_ := aa.mk (Kd.j2 (by (with_reducible repeat (first | apply Kd.kN | apply Kd.kL | apply Kd.kM)); exact ja.out) hb)
  have n1_ := aa.mk (aD (g := dZ) (o := .cells #[.int .i64 a0_0, .int .i64 a0_1, .slice A0_2 l0_2.length c0_2, .slice A0_3 l0_3.length c0_3, .int .i64 a0_4, .bool a0_5, .int .i64 a0_6] 32 (0, 0)) (by (with_reducible repeat (first | refine al ?_ _ | refine ao ?_ | refine an ?_ _)); exact cg.out) hb)
  have n2_ := aa.mk (ar (by repeat (first | (with_reducible first | exact HB.out | apply ag | apply af | apply ah | refine ak ?_ iu.out) | exact HB.out)) hb)
  clear ja
  clear cg
  clear HB
  have ja := n0_
  have cg := n1_
  have HB := n2_
  clear n0_ n1_ n2_
  (try clear hb)
  (try clear hb2)
  (try clear hk)
  (try clear hi)
  refine hK.out _ _ ⟨(ai cg.out 0).trans rfl, (ai cg.out 1).trans rfl, (ai cg.out 2).trans rfl, (ai cg.out 3).trans rfl, (ai cg.out 4).trans rfl, (ai cg.out 5).trans rfl, (ai cg.out 6).trans rfl⟩ (fun hHeld => ?_)
  clear hK K
  refine gC (a' := ?_) ?_ ?_
  rotate_left
  ·show Act.put _ (some 25) _ = _
   simp only [Act.put, List.setIfInBounds_toArray, List.set_cons_zero, List.set_cons_succ, a8, bf]
   rfl
  refine bO (i := 7) (N := some 7) (v := ?_) (a' := ?_) #[true, true, true, true, true, true, true, true, false] rfl rfl (bx HT_.out (by kernel_rfl)) (fun _ _ _ h => h) (Or.inl ⟨by rfl, ?_⟩) ?_ ?_
  rotate_left
  ·intro w'
   go_simp
   with_reducible rfl
  rotate_left
  ·simp only [Act.put, List.setIfInBounds_toArray, List.set_cons_zero, List.set_cons_succ, a8, bf]
   rfl
  refine bO (i := 8) (N := some 8) (v := ?_) (a' := ?_) #[true, true, true, true, true, true, true, true, true] rfl rfl (bx HT_.out (by kernel_rfl)) (fun _ _ _ h => h) (Or.inl ⟨by rfl, ?_⟩) ?_ ?_
  rotate_left
  ·intro w'
   go_simp
   with_reducible rfl
  rotate_left
  ·simp only [Act.put, List.setIfInBounds_toArray, List.set_cons_zero, List.set_cons_succ, a8, bf]
   rfl
  refine mq (iU HT_.out (by kernel_rfl)) ?_
  try go_wp2
  go_loopg [7, 8, 28] k (fun kq v7 v8 v28 w' => ∃ (x7_1 : Int) (x8_1 : Int) (x28_1 : Int), v7 = .int .u64 x7_1 ∧ v8 = .int .u64 x8_1 ∧ v28 = .int .i64 x28_1 ∧ aa (cm.l0 kq x7_1 x8_1 t134 (t134.length : Int) x28_1 = some (r1, r2, r3)) ∧ aa (kq ≤ k) ∧ aa (Kd.S k28 28 w' w.heap.size (fun _ => True) (.slice fQ t134.length fO) t134) ∧ aa (w'.heap[dZ]? = some (.cells #[.int .i64 a0_0, .int .i64 a0_1, (.slice A0_2 l0_2.length c0_2), (.slice A0_3 l0_3.length c0_3), .int .i64 a0_4, .bool a0_5, .int .i64 a0_6] 32 (0, 0))) ∧ aa (Below w.heap.size w w'))
  case atStart => exact ⟨(t140), (t141), (0), (by first | rfl | (simp; done) | (simp [*]; done)), (by first | rfl | (simp; done) | (simp [*]; done)), (by first | rfl | (simp; done) | (simp [*]; done)), H', ⟨Nat.le_refl _⟩, ⟨by (with_reducible repeat (first | apply Kd.kN | apply Kd.kL | apply Kd.kM)); exact ja.out⟩, ⟨by (with_reducible repeat (first | refine al ?_ _ | refine ao ?_ | refine an ?_ _)); exact cg.out⟩, ⟨by repeat (first | (with_reducible first | exact HB.out | apply ag | apply af | apply ah | refine ak ?_ iu.out) | exact HB.out)⟩⟩
  case round =>
   clear H'
   try clear p2
   try clear c3
   try clear c3b0
   try clear c3b1
   try clear c3b2
   try clear c4
   try clear c6
   try clear iQ
   try clear iP
   try clear iM
   try clear iL
   try clear sJ
   try clear sI
   try clear sH
   try clear sv
   try clear su
   try clear so
   try clear sm
   try clear DG
   try clear DF
   try clear DE
   try clear iK
   try clear iJ
   try clear iI
   try clear iH
   try clear sf
   try clear sd
   try clear sc
   try clear rT
   try clear rS
   try clear rR
   try clear rQ
   try clear DA
   try clear Dz
   try clear Dy
   obtain ⟨x7_1, x8_1, x28_1, rfl, rfl, rfl, HA, HK1, ks, cg, HB⟩ := hrel
   cases gk with
   | zero => exact absurd HA.out (by simp [cm.l0])
   | succ k1 =>
    have H := HA.out
    clear HA
    simp only [cm.l0] at H
    by_cases c19 : x28_1 < (t134.length : Int)
    ·rw [if_pos c19] at H
     have c19b0 : decide (x28_1 < (t134.length : Int)) = true := decide_eq_true c19
     clear c19
     by_cases c20 : 0 ≤ x28_1
     ·rw [if_pos c20] at H
      have c20b0 : decide (0 ≤ x28_1) = true := decide_eq_true c20
      clear c20
      by_cases c21 : x28_1 < (t134.length : Int)
      ·rw [if_pos c21] at H
       have c21b0 : decide (x28_1 < (t134.length : Int)) = true := decide_eq_true c21
       clear c21
       replace H := Option.bind_eq_some_iff.mp H
       obtain ⟨t144, A220, H⟩ := H
       replace H : ((aI.f k1 ((bJ t134 x28_1).f0) ((bJ t134 x28_1).f1) ((bJ t134 x28_1).f2) ((bJ t134 x28_1).f3)).bind fun t145 => (cm.l0 k1 (Go.bits .and .u64 x7_1 t144) (Go.bits .andNot .u64 x8_1 t145) t134 (t134.length : Int) (wrap64 (x28_1 + 1)))) = some (r1, r2, r3) := H
       have A22 := aa.mk A220
       clear A220
       replace H := Option.bind_eq_some_iff.mp H
       obtain ⟨t145, A230, H⟩ := H
       replace H : (cm.l0 k1 (Go.bits .and .u64 x7_1 t144) (Go.bits .andNot .u64 x8_1 t145) t134 (t134.length : Int) (wrap64 (x28_1 + 1))) = some (r1, r2, r3) := H
       have A23 := aa.mk A230
       clear A230
       have H' := aa.mk H
       clear H
       have p142 : 0 ≤ (x28_1 : Int) := of_decide_eq_true (by first | (with_reducible assumption) | assumption)
       have q142 : x28_1 < (t134.length : Int) := of_decide_eq_true (by first | (with_reducible assumption) | assumption)
       obtain ⟨ad142, A142_2, c142_2, A142_3, c142_3, e142, Gr, Gq, Bi, Bh, hl142_2, vK, hl142_3, vJ⟩ := D1 (Kd.uh ks.out).2.2 x28_1 p142 q142
       cases e142
       obtain ⟨ce142, DQ, hMe142, uZ⟩ := Kd.ET ks.out z28 x28_1 p142 (by first | exact q142 | exact of_decide_eq_true (by first | (with_reducible assumption) | assumption) | (have e_ := (Kd.uh ks.out).1; omega))
       obtain ⟨ve142_2, ve142_3, rfl, ge142_2, ge142_3⟩ := yc hMe142
       have hv142_2 := uZ 2 _ rfl
       rw [fy _ _ 2 (by omega)] at hv142_2
       replace hv142_2 := Option.some.inj (hv142_2.symm.trans Bi)
       rw [hv142_2] at ge142_2
       have HL142_2 := aa.mk (show Kd.R (Kd.int .i64) 3 _ _ _ _ ((bJ t134 x28_1).f2) from ge142_2)
       clear hv142_2 ge142_2
       have hv142_3 := uZ 3 _ rfl
       rw [fy _ _ 3 (by omega)] at hv142_3
       replace hv142_3 := Option.some.inj (hv142_3.symm.trans Bh)
       rw [hv142_3] at ge142_3
       have HL142_3 := aa.mk (show Kd.R (Kd.int .i64) 3 _ _ _ _ ((bJ t134 x28_1).f3) from ge142_3)
       clear hv142_3 ge142_3
       clear uZ DQ
       have gO := aa.mk vK
       have xr := aa.mk hl142_2
       clear vK hl142_2
       have gN := aa.mk vJ
       have xq := aa.mk hl142_3
       clear vJ hl142_3
       replace p142 := eq_true p142
       replace q142 := eq_true q142
       go_wp2_with (first | ((with_reducible refine aV (N := 10) rfl ?_); refine aM ?hg (N := 10) ?hd (cs := #[.int .i64 0, .int .i64 0, .slice none 0 0, .slice none 0 0]) (t := 28) ?hr ?_; (case hd => rfl); (case hg => rfl); (case hr => first | (go_simp; done) | (go_simp; rfl)); intro dE hg w24 hbox hb; have n0_ := aa.mk (Kd.j2 (Kd.zE (by (with_reducible repeat (first | apply Kd.kN | apply Kd.kL | apply Kd.kM)); exact ks.out) dE (Nat.le_of_eq hg.symm)) hb); have n1_ := aa.mk (Kd.cx (by (with_reducible repeat (first | apply Kd.aH | apply Kd.aG | apply Kd.aQ)); exact HL142_2.out) hb); have n2_ := aa.mk (Kd.cx (by (with_reducible repeat (first | apply Kd.aH | apply Kd.aG | apply Kd.aQ)); exact HL142_3.out) hb); have n3_ := aa.mk (aD (g := dZ) (o := .cells #[.int .i64 a0_0, .int .i64 a0_1, .slice A0_2 l0_2.length c0_2, .slice A0_3 l0_3.length c0_3, .int .i64 a0_4, .bool a0_5, .int .i64 a0_6] 32 (0, 0)) (by (with_reducible repeat (first | refine al ?_ _ | refine ao ?_ | refine an ?_ _)); exact cg.out) hb); have n4_ := aa.mk (Kd.ax (by repeat (first | (with_reducible exact gO.out) | (with_reducible refine Kd.aX ?_ _) | (with_reducible refine Kd.aW ?_ _) | (with_reducible refine Kd.bh ?_) | exact gO.out)) hb); have n5_ := aa.mk (Kd.ax (by repeat (first | (with_reducible exact gN.out) | (with_reducible refine Kd.aX ?_ _) | (with_reducible refine Kd.aW ?_ _) | (with_reducible refine Kd.bh ?_) | exact gN.out)) hb); have n6_ := aa.mk (ar (by repeat (first | (with_reducible first | exact HB.out | apply ag | apply af | apply ah | refine ak ?_ iu.out) | exact HB.out)) hb); have n7_ := aa.mk (hbox); have n8_ := aa.mk ((by rw [hg]; exact (aq (by repeat (first | (with_reducible first | exact HB.out | apply ag | apply af | apply ah | refine ak ?_ iu.out) | exact HB.out))) : w.heap.size ≤ dE)); have n9_ := aa.mk ((by rw [hg]; exact (aq (by repeat (first | (with_reducible first | exact HB.out | apply ag | apply af | apply ah | refine ak ?_ iu.out) | exact HB.out))) : w.heap.size ≤ dE)); have n10_ := aa.mk ((by rw [hg]; exact Nat.ne_of_lt (a7 (g := dZ) (o := .cells #[.int .i64 a0_0, .int .i64 a0_1, .slice A0_2 l0_2.length c0_2, .slice A0_3 l0_3.length c0_3, .int .i64 a0_4, .bool a0_5, .int .i64 a0_6] 32 (0, 0)) (by (with_reducible repeat (first | refine al ?_ _ | refine ao ?_ | refine an ?_ _)); exact cg.out)) : dZ ≠ dE)); have n11_ := aa.mk ((by rw [hg]; exact Nat.ne_of_gt (a7 (g := dZ) (o := .cells #[.int .i64 a0_0, .int .i64 a0_1, .slice A0_2 l0_2.length c0_2, .slice A0_3 l0_3.length c0_3, .int .i64 a0_4, .bool a0_5, .int .i64 a0_6] 32 (0, 0)) (by (with_reducible repeat (first | refine al ?_ _ | refine ao ?_ | refine an ?_ _)); exact cg.out)) : dE ≠ dZ)); clear ks; clear HL142_2; clear HL142_3; clear cg; clear gO; clear gN; clear HB; have ks := n0_; have HL142_2 := n1_; have HL142_3 := n2_; have cg := n3_; have gO := n4_; have gN := n5_; have HB := n6_; have ft := n7_; have GW143 := n8_; have z7 := n9_; have kr := n10_; have yo := n11_; clear n0_ n1_ n2_ n3_ n4_ n5_ n6_ n7_ n8_ n9_ n10_ n11_; clear hb hbox hg; have hnb25 := yo.out; have hnc25 := kr.out; have hcz26_0 : w24.cell? ⟨dE, 0, none⟩ = some (.int .i64 0) := (ai ft.out 0).trans rfl; have hcz26_1 : w24.cell? ⟨dE, 1, none⟩ = some (.int .i64 0) := (ai ft.out 1).trans rfl; have hcz26_2 : w24.cell? ⟨dE, 2, none⟩ = some (.slice none 0 0) := (ai ft.out 2).trans rfl; have hcz26_3 : w24.cell? ⟨dE, 3, none⟩ = some (.slice none 0 0) := (ai ft.out 3).trans rfl; have GR := aj ft.out 0; have GQ := aj ft.out 1; have GP := aj ft.out 2; have GO := aj ft.out 3) | ((with_reducible refine az (f := 68) rfl ?_); refine bI (some 34) rfl rfl Tryz.func68 (by kernel_rfl) rfl #[.agg #[.int .i64 ((bJ t134 x28_1).f0), .int .i64 ((bJ t134 x28_1).f1), .slice A142_2 ((bJ t134 x28_1).f2).length c142_2, .slice A142_3 ((bJ t134 x28_1).f3).length c142_3]] rfl (by (try simp only [List.map_toArray, List.map_cons, List.map_nil]); first | done | rfl | (simp only [List.length_drop, List.length_take]; rfl)) ?_; (with_reducible refine (aI.calls k1 ((bJ t134 x28_1).f0) ((bJ t134 x28_1).f1) _ _ ((bJ t134 x28_1).f2) _ _ ((bJ t134 x28_1).f3) t144 _ ?side1 ?side2 ?side3 ?side4 A22.out).mono ?_); (case side1 => repeat (first | exact ((Kd.bZ (by (with_reducible repeat (first | apply Kd.aH | apply Kd.aG | apply Kd.aQ)); exact (Kd.bV (Kd.bp (p := ⟨dE, 3, none⟩) (Kd.bp (p := ⟨dE, 2, none⟩) (Kd.bp (p := ⟨dE, 1, none⟩) (Kd.bp (p := ⟨dE, 0, none⟩) (Kd.cU HL142_2.out ft.out (by decide)) (fun _ hk => hk.2) (.int .i64 ((bJ t134 x28_1).f0))) (fun _ hk => hk.2) (.int .i64 ((bJ t134 x28_1).f1))) (fun _ hk => hk.2) (.slice A142_2 ((bJ t134 x28_1).f2).length c142_2)) (fun _ hk => hk.2) (.slice A142_3 ((bJ t134 x28_1).f3).length c142_3)) (fun _ h_ => h_.1)))).2.2) | (with_reducible refine Kd.aX ?_ _) | (with_reducible refine Kd.aW ?_ _) | (with_reducible refine Kd.bh ?_))); (case side2 => exact xr.out); (case side3 => repeat (first | exact ((Kd.bZ (by (with_reducible repeat (first | apply Kd.aH | apply Kd.aG | apply Kd.aQ)); exact (Kd.bV (Kd.bp (p := ⟨dE, 3, none⟩) (Kd.bp (p := ⟨dE, 2, none⟩) (Kd.bp (p := ⟨dE, 1, none⟩) (Kd.bp (p := ⟨dE, 0, none⟩) (Kd.cU HL142_3.out ft.out (by decide)) (fun _ hk => hk.2) (.int .i64 ((bJ t134 x28_1).f0))) (fun _ hk => hk.2) (.int .i64 ((bJ t134 x28_1).f1))) (fun _ hk => hk.2) (.slice A142_2 ((bJ t134 x28_1).f2).length c142_2)) (fun _ hk => hk.2) (.slice A142_3 ((bJ t134 x28_1).f3).length c142_3)) (fun _ h_ => h_.1)))).2.2) | (with_reducible refine Kd.aX ?_ _) | (with_reducible refine Kd.aW ?_ _) | (with_reducible refine Kd.bh ?_))); (case side4 => exact xq.out); rintro e w27 ⟨rfl, hb⟩; refine ⟨_, rfl, ?_⟩; have n0_ := aa.mk (Kd.j2 (by (with_reducible repeat (first | apply Kd.kN | apply Kd.kL | apply Kd.kM)); exact (Kd.nN (Kd.xi (p := ⟨dE, 3, none⟩) (Kd.xi (p := ⟨dE, 2, none⟩) (Kd.xi (p := ⟨dE, 1, none⟩) (Kd.xi (p := ⟨dE, 0, none⟩) (Kd.nN ks.out (fun k_ hk => (⟨hk, hk.2⟩ : _ ∧ k_ ≠ dE))) (fun _ hk => hk.2) (.int .i64 ((bJ t134 x28_1).f0))) (fun _ hk => hk.2) (.int .i64 ((bJ t134 x28_1).f1))) (fun _ hk => hk.2) (.slice A142_2 ((bJ t134 x28_1).f2).length c142_2)) (fun _ hk => hk.2) (.slice A142_3 ((bJ t134 x28_1).f3).length c142_3)) (fun _ h_ => h_.1))) hb); have n1_ := aa.mk (Kd.cx (by (with_reducible repeat (first | apply Kd.aH | apply Kd.aG | apply Kd.aQ)); exact (Kd.bV (Kd.bp (p := ⟨dE, 3, none⟩) (Kd.bp (p := ⟨dE, 2, none⟩) (Kd.bp (p := ⟨dE, 1, none⟩) (Kd.bp (p := ⟨dE, 0, none⟩) (Kd.cU HL142_2.out ft.out (by decide)) (fun _ hk => hk.2) (.int .i64 ((bJ t134 x28_1).f0))) (fun _ hk => hk.2) (.int .i64 ((bJ t134 x28_1).f1))) (fun _ hk => hk.2) (.slice A142_2 ((bJ t134 x28_1).f2).length c142_2)) (fun _ hk => hk.2) (.slice A142_3 ((bJ t134 x28_1).f3).length c142_3)) (fun _ h_ => h_.1))) hb); have n2_ := aa.mk (Kd.cx (by (with_reducible repeat (first | apply Kd.aH | apply Kd.aG | apply Kd.aQ)); exact (Kd.bV (Kd.bp (p := ⟨dE, 3, none⟩) (Kd.bp (p := ⟨dE, 2, none⟩) (Kd.bp (p := ⟨dE, 1, none⟩) (Kd.bp (p := ⟨dE, 0, none⟩) (Kd.cU HL142_3.out ft.out (by decide)) (fun _ hk => hk.2) (.int .i64 ((bJ t134 x28_1).f0))) (fun _ hk => hk.2) (.int .i64 ((bJ t134 x28_1).f1))) (fun _ hk => hk.2) (.slice A142_2 ((bJ t134 x28_1).f2).length c142_2)) (fun _ hk => hk.2) (.slice A142_3 ((bJ t134 x28_1).f3).length c142_3)) (fun _ h_ => h_.1))) hb); have n3_ := aa.mk (aD (g := dZ) (o := .cells #[.int .i64 a0_0, .int .i64 a0_1, .slice A0_2 l0_2.length c0_2, .slice A0_3 l0_3.length c0_3, .int .i64 a0_4, .bool a0_5, .int .i64 a0_6] 32 (0, 0)) (by (with_reducible repeat (first | refine al ?_ _ | refine ao ?_ | refine an ?_ _)); refine cT ?_ kr.out _; (with_reducible repeat (first | refine al ?_ _ | refine ao ?_ | refine an ?_ _)); refine cT ?_ kr.out _; (with_reducible repeat (first | refine al ?_ _ | refine ao ?_ | refine an ?_ _)); refine cT ?_ kr.out _; (with_reducible repeat (first | refine al ?_ _ | refine ao ?_ | refine an ?_ _)); refine cT ?_ kr.out _; (with_reducible repeat (first | refine al ?_ _ | refine ao ?_ | refine an ?_ _)); exact cg.out) hb); have n4_ := aa.mk (Kd.ax ((Kd.bZ (by (with_reducible repeat (first | apply Kd.aH | apply Kd.aG | apply Kd.aQ)); exact (Kd.bV (Kd.bp (p := ⟨dE, 3, none⟩) (Kd.bp (p := ⟨dE, 2, none⟩) (Kd.bp (p := ⟨dE, 1, none⟩) (Kd.bp (p := ⟨dE, 0, none⟩) (Kd.cU HL142_2.out ft.out (by decide)) (fun _ hk => hk.2) (.int .i64 ((bJ t134 x28_1).f0))) (fun _ hk => hk.2) (.int .i64 ((bJ t134 x28_1).f1))) (fun _ hk => hk.2) (.slice A142_2 ((bJ t134 x28_1).f2).length c142_2)) (fun _ hk => hk.2) (.slice A142_3 ((bJ t134 x28_1).f3).length c142_3)) (fun _ h_ => h_.1)))).2.2) hb); have n5_ := aa.mk (Kd.ax ((Kd.bZ (by (with_reducible repeat (first | apply Kd.aH | apply Kd.aG | apply Kd.aQ)); exact (Kd.bV (Kd.bp (p := ⟨dE, 3, none⟩) (Kd.bp (p := ⟨dE, 2, none⟩) (Kd.bp (p := ⟨dE, 1, none⟩) (Kd.bp (p := ⟨dE, 0, none⟩) (Kd.cU HL142_3.out ft.out (by decide)) (fun _ hk => hk.2) (.int .i64 ((bJ t134 x28_1).f0))) (fun _ hk => hk.2) (.int .i64 ((bJ t134 x28_1).f1))) (fun _ hk => hk.2) (.slice A142_2 ((bJ t134 x28_1).f2).length c142_2)) (fun _ hk => hk.2) (.slice A142_3 ((bJ t134 x28_1).f3).length c142_3)) (fun _ h_ => h_.1)))).2.2) hb); have n6_ := aa.mk (aD (g := dE) (o := .cells #[.int .i64 ((bJ t134 x28_1).f0), .int .i64 ((bJ t134 x28_1).f1), .slice A142_2 ((bJ t134 x28_1).f2).length c142_2, .slice A142_3 ((bJ t134 x28_1).f3).length c142_3] 28 (0, 0)) (by (with_reducible repeat (first | refine al ?_ _ | refine ao ?_ | refine an ?_ _)); refine bF (cs := #[.int .i64 ((bJ t134 x28_1).f0), .int .i64 ((bJ t134 x28_1).f1), .slice A142_2 ((bJ t134 x28_1).f2).length c142_2, .slice none 0 0]) ?_ 3 _ rfl; (with_reducible repeat (first | refine al ?_ _ | refine ao ?_ | refine an ?_ _)); refine bF (cs := #[.int .i64 ((bJ t134 x28_1).f0), .int .i64 ((bJ t134 x28_1).f1), .slice none 0 0, .slice none 0 0]) ?_ 2 _ rfl; (with_reducible repeat (first | refine al ?_ _ | refine ao ?_ | refine an ?_ _)); refine bF (cs := #[.int .i64 ((bJ t134 x28_1).f0), .int .i64 0, .slice none 0 0, .slice none 0 0]) ?_ 1 _ rfl; (with_reducible repeat (first | refine al ?_ _ | refine ao ?_ | refine an ?_ _)); refine bF (cs := #[.int .i64 0, .int .i64 0, .slice none 0 0, .slice none 0 0]) ?_ 0 _ rfl; (with_reducible repeat (first | refine al ?_ _ | refine ao ?_ | refine an ?_ _)); exact ft.out) hb); have n7_ := aa.mk (ar (by repeat (first | (with_reducible first | exact HB.out | apply ag | apply af | apply ah | refine ak ?_ iu.out | refine ak ?_ z7.out) | exact HB.out)) hb); clear ks; clear HL142_2; clear HL142_3; clear cg; clear gO; clear gN; clear ft; clear HB; have ks := n0_; have HL142_2 := n1_; have HL142_3 := n2_; have cg := n3_; have gO := n4_; have gN := n5_; have ft := n6_; have HB := n7_; clear n0_ n1_ n2_ n3_ n4_ n5_ n6_ n7_; (try clear hb); (try clear hb2); (try clear hk); (try clear hi); have wy : w27.cell? ⟨dE, 0, none⟩ = some (.int .i64 ((bJ t134 x28_1).f0)) := (ai ft.out 0).trans rfl; have wx : w27.cell? ⟨dE, 1, none⟩ = some (.int .i64 ((bJ t134 x28_1).f1)) := (ai ft.out 1).trans rfl; have wv : w27.cell? ⟨dE, 2, none⟩ = some (.slice A142_2 ((bJ t134 x28_1).f2).length c142_2) := (ai ft.out 2).trans rfl; have wu : w27.cell? ⟨dE, 3, none⟩ = some (.slice A142_3 ((bJ t134 x28_1).f3).length c142_3) := (ai ft.out 3).trans rfl; have vO := aj ft.out 0; have vN := aj ft.out 1; have vM := aj ft.out 2; have vL := aj ft.out 3) | ((with_reducible refine az (f := 68) rfl ?_); refine bI (some 38) rfl rfl Tryz.func68 (by kernel_rfl) rfl #[.agg #[.int .i64 ((bJ t134 x28_1).f0), .int .i64 ((bJ t134 x28_1).f1), .slice A142_2 ((bJ t134 x28_1).f2).length c142_2, .slice A142_3 ((bJ t134 x28_1).f3).length c142_3]] rfl (by (try simp only [List.map_toArray, List.map_cons, List.map_nil]); first | done | rfl | (simp only [List.length_drop, List.length_take]; rfl)) ?_; (with_reducible refine (aI.calls k1 ((bJ t134 x28_1).f0) ((bJ t134 x28_1).f1) _ _ ((bJ t134 x28_1).f2) _ _ ((bJ t134 x28_1).f3) t145 _ ?side1 ?side2 ?side3 ?side4 A23.out).mono ?_); (case side1 => repeat (first | exact (by repeat (first | (with_reducible exact gO.out) | (with_reducible refine Kd.aX ?_ _) | (with_reducible refine Kd.aW ?_ _) | (with_reducible refine Kd.bh ?_) | exact gO.out)) | (with_reducible refine Kd.aX ?_ _) | (with_reducible refine Kd.aW ?_ _) | (with_reducible refine Kd.bh ?_))); (case side2 => exact xr.out); (case side3 => repeat (first | exact (by repeat (first | (with_reducible exact gN.out) | (with_reducible refine Kd.aX ?_ _) | (with_reducible refine Kd.aW ?_ _) | (with_reducible refine Kd.bh ?_) | exact gN.out)) | (with_reducible refine Kd.aX ?_ _) | (with_reducible refine Kd.aW ?_ _) | (with_reducible refine Kd.bh ?_))); (case side4 => exact xq.out); rintro e w29 ⟨rfl, hb⟩; refine ⟨_, rfl, ?_⟩; have n0_ := aa.mk (Kd.j2 (by (with_reducible repeat (first | apply Kd.kN | apply Kd.kL | apply Kd.kM)); exact ks.out) hb); have n1_ := aa.mk (Kd.cx (by (with_reducible repeat (first | apply Kd.aH | apply Kd.aG | apply Kd.aQ)); exact HL142_2.out) hb); have n2_ := aa.mk (Kd.cx (by (with_reducible repeat (first | apply Kd.aH | apply Kd.aG | apply Kd.aQ)); exact HL142_3.out) hb); have n3_ := aa.mk (aD (g := dZ) (o := .cells #[.int .i64 a0_0, .int .i64 a0_1, .slice A0_2 l0_2.length c0_2, .slice A0_3 l0_3.length c0_3, .int .i64 a0_4, .bool a0_5, .int .i64 a0_6] 32 (0, 0)) (by (with_reducible repeat (first | refine al ?_ _ | refine ao ?_ | refine an ?_ _)); exact cg.out) hb); have n4_ := aa.mk (Kd.ax (by repeat (first | (with_reducible exact gO.out) | (with_reducible refine Kd.aX ?_ _) | (with_reducible refine Kd.aW ?_ _) | (with_reducible refine Kd.bh ?_) | exact gO.out)) hb); have n5_ := aa.mk (Kd.ax (by repeat (first | (with_reducible exact gN.out) | (with_reducible refine Kd.aX ?_ _) | (with_reducible refine Kd.aW ?_ _) | (with_reducible refine Kd.bh ?_) | exact gN.out)) hb); have n6_ := aa.mk (aD (g := dE) (o := .cells #[.int .i64 ((bJ t134 x28_1).f0), .int .i64 ((bJ t134 x28_1).f1), .slice A142_2 ((bJ t134 x28_1).f2).length c142_2, .slice A142_3 ((bJ t134 x28_1).f3).length c142_3] 28 (0, 0)) (by (with_reducible repeat (first | refine al ?_ _ | refine ao ?_ | refine an ?_ _)); exact ft.out) hb); have n7_ := aa.mk (ar (by repeat (first | (with_reducible first | exact HB.out | apply ag | apply af | apply ah | refine ak ?_ iu.out | refine ak ?_ z7.out) | exact HB.out)) hb); clear ks; clear HL142_2; clear HL142_3; clear cg; clear gO; clear gN; clear ft; clear HB; have ks := n0_; have HL142_2 := n1_; have HL142_3 := n2_; have cg := n3_; have gO := n4_; have gN := n5_; have ft := n6_; have HB := n7_; clear n0_ n1_ n2_ n3_ n4_ n5_ n6_ n7_; (try clear hb); (try clear hb2); (try clear hk); (try clear hi)))
       go_roundg k1
       case measure => have := HK1.out; omega
       case rel => exact ⟨(Go.bits .and .u64 x7_1 t144), (Go.bits .andNot .u64 x8_1 t145), (wrap64 (x28_1 + 1)), (by first | rfl | (simp; done) | (simp [*]; done)), (by first | rfl | (simp; done) | (simp [*]; done)), (by first | rfl | (simp; done) | (simp [*]; done)), H', ⟨by have := HK1.out; omega⟩, ⟨by (with_reducible repeat (first | apply Kd.kN | apply Kd.kL | apply Kd.kM)); exact Kd.nN ks.out (fun _ hk => trivial)⟩, ⟨by (with_reducible repeat (first | refine al ?_ _ | refine ao ?_ | refine an ?_ _)); exact cg.out⟩, ⟨by repeat (first | (with_reducible first | exact HB.out | apply ag | apply af | apply ah | refine ak ?_ iu.out | refine ak ?_ z7.out) | exact HB.out)⟩⟩
      ·rw [if_neg c21] at H
       exact absurd H (by simp)
     ·rw [if_neg c20] at H
      exact absurd H (by simp)
    ·rw [if_neg c19] at H
     have c19b0 : decide (x28_1 < (t134.length : Int)) = false := decide_eq_false c19
     clear c19
     simp only [Option.some.injEq, Prod.mk.injEq] at H
     obtain ⟨rfl, rfl, rfl⟩ := H
     go_wp2
     go_ret3
     exact ⟨by first | rfl | (simp [av, au] <;> rfl) | (simp [*, av, au] <;> rfl), by repeat (first | (with_reducible first | exact HB.out | apply ag | apply af | apply ah | refine ak ?_ iu.out) | exact HB.out)⟩
end Go.Proofs.YtmjlmloomkodpaaGreatDoor.PA
