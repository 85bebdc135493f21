/- Written for this claim by its session's own programs: contracts of the functions that the law reaches, and the plain law over them (part 1 of 6). -/
import Derived.Shelf.Strings.Builder1
import Derived.Shelf.Strings.Builder2
import Derived.Shelf.Strings.OnBuilder
import Derived.Shelf.Small.Strs
import Derived.Shelf.SlGeneric
import Derived.Test.YtmjlmloomkodpaaGreatDoorProg
import Derived.Shelf.SlSortCmp.NoneTotal
import Derived.Ground.SlsfProg
import Derived.Lone
import Derived.Listen
import Derived.RunT
import Derived.Calls
import Derived.Below
import Derived.Sort.Grow
import Derived.Deep.Draws
import Derived.Deep.AppendLies
import Derived.Maps.AppendAt
import Derived.OwnWalk
import Derived.Laws.BytesArg
import Derived.Laws.MakeOwn
import Derived.Laws.OwnMore
import Derived.Deep.OwnRows
import Derived.Tactics
import Derived.Lib.ConvBytes
import Derived.Laws.Slices
import Derived.WalkKit
import Derived.KernelRfl
import Derived.RowKit3
import Derived.Deep.LoopGhost
import Derived.Deep.QuietTactic
import Derived.BigQuiet
import Derived.WideLaws
import Derived.Deep.DeepCutAuto
import Derived.Deep.CutBlock
import Derived.Deep.RegionHeld3
import Derived.Laws.Rows
import Derived.Lib.AppendStr
import Derived.ArgAppend
import Derived.Laws.IdiomCopy
import Derived.OrdersHeld
import Derived.Laws.BitsLemmas
import Derived.RowKit
import Derived.Shelf.Abstract
import Derived.Lib.TrailingZeros
import Derived.Laws.Bits64b
import Derived.Lib.SliceRun
import Derived.StillTailTactics
import Derived.Laws.EntriesVeiled
import Derived.Laws.StructEq
import Derived.Laws.Entries
import Derived.ProofKit
import Derived.OpenShut
import Derived.ChangeOld
import Derived.Carry
import Derived.SizedLaws
import Derived.Deep.DeepHandedRow
import Derived.Lib.LaidTab
import Derived.Test.YtmjlmloomkodpaaGreatDoorSureTaken0
namespace Go.Proofs
open Go.Shelf
def Tryz.ot : Go.Shelf.Ren := ⟨fun | 156 => 84 | 165 => 116 | 166 => 117 | 169 => 118 | 240 => 152 | 241 => 153 | 276 => 186 | 277 => 187 | n => n, fun | 31 => 68 | 9 => 9 | 3 => 3 | 4 => 4 | 0 => 0 | 20 => 20 | 72 => 132 | 76 => 112 | 70 => 130 | 37 => 97 | 75 => 111 | 127 => 159 | 164 => 188 | 5 => 5 | 80 => 134 | n => n, fun | n => n⟩
theorem Tryz.AP : Go.Proofs.Lays.n156 Tryz.prog Tryz.ot := {
  mixed := by kernel_rfl
  f156 := Tryz.func84.trans (congrArg some (by kernel_rfl))
  f165 := Tryz.func116.trans (congrArg some (by kernel_rfl))
  f166 := Tryz.func117.trans (congrArg some (by kernel_rfl))
  f169 := Tryz.func118.trans (congrArg some (by kernel_rfl))
  f240 := Tryz.func152.trans (congrArg some (by kernel_rfl))
  f241 := Tryz.func153.trans (congrArg some (by kernel_rfl))
  f276 := Tryz.func186.trans (congrArg some (by kernel_rfl))
  f277 := Tryz.func187.trans (congrArg some (by kernel_rfl))
  t0 := Tryz.underlying0
  a0 := Tryz.isAgg0
  z0 := Tryz.sizeOf0
  v0 := Tryz.zeroValue0
  t3 := Tryz.underlying3
  a3 := Tryz.isAgg3
  z3 := Tryz.sizeOf3
  v3 := Tryz.zeroValue3
  t4 := Tryz.underlying4
  a4 := Tryz.isAgg4
  z4 := Tryz.sizeOf4
  v4 := Tryz.zeroValue4
  t9 := Tryz.underlying9
  a9 := Tryz.isAgg9
  z9 := Tryz.sizeOf9
  v9 := Tryz.zeroValue9
  t20 := Tryz.underlying20
  a20 := Tryz.isAgg20
  z20 := Tryz.sizeOf20
  v20 := Tryz.zeroValue20
  t31 := Tryz.underlying68
  a31 := Tryz.isAgg68
  z31 := Tryz.sizeOf68
  v31 := Tryz.zeroValue68
  t37 := Tryz.underlying97
  a37 := Tryz.isAgg97
  z37 := Tryz.sizeOf97
  v37 := Tryz.zeroValue97
  t70 := Tryz.underlying130
  a70 := Tryz.isAgg130
  z70 := Tryz.sizeOf130
  v70 := Tryz.zeroValue130
  t72 := Tryz.underlying132
  a72 := Tryz.isAgg132
  z72 := Tryz.sizeOf132
  v72 := Tryz.zeroValue132
  t75 := Tryz.underlying111
  a75 := Tryz.isAgg111
  z75 := Tryz.sizeOf111
  v75 := Tryz.zeroValue111
  t76 := Tryz.underlying112
  a76 := Tryz.isAgg112
  z76 := Tryz.sizeOf112
  v76 := Tryz.zeroValue112
  t127 := Tryz.underlying159
  a127 := Tryz.isAgg159
  z127 := Tryz.sizeOf159
  v127 := Tryz.zeroValue159
  t164 := Tryz.underlying188
  a164 := Tryz.isAgg188
  z164 := Tryz.sizeOf188
  v164 := Tryz.zeroValue188 }
theorem Tryz.nx : Builder.Extra Tryz.prog Tryz.ot := {
  sizeBuilder := by kernel_rfl
  liesBuilder := by kernel_rfl
  t5 := Tryz.underlying5
  a5 := Tryz.isAgg5
  z5 := Tryz.sizeOf5
  v5 := Tryz.zeroValue5
  infoByte := by kernel_rfl
  cellsByte := by kernel_rfl
  sizeByte := by kernel_rfl
  neB5 := by decide }
open Go.RowKit in
open Go.RowKit in
theorem Tryz.strings_Join (bk o c : Nat) (xs : List ByteArray) (sep : ByteArray) (w : World) (hcells : ∀ (j : Nat) x, xs[j]? = some x → w.cell? ⟨bk, o + j, none⟩ = some (.string x)) (hbk : bk < w.heap.size) (hN : xs.length ≤ 140737488355328) (hcap : xs.length ≤ c) (hlen : (Lib.join (xs.map (·.data.toList)) sep.data.toList).length ≤ 140737488355328) :
    Calls Tryz.prog 84 #[.slice (some ⟨bk, o, none⟩) xs.length c, .string sep] w fun e w' => e = .returned (.string ⟨(Lib.join (xs.map (·.data.toList)) sep.data.toList).toArray⟩) ∧ Below w.heap.size w w' := Any.strings_Join Tryz.AP Tryz.nx bk o c xs sep w hcells hbk hN hcap hlen
def Tryz.CR : Go.Shelf.Ren := ⟨fun | 213 => 151 | 265 => 185 | n => n, fun | 9 => 9 | 3 => 3 | n => n, fun | n => n⟩
open Go.RowKit in
def Tryz.tG : Go.Shelf.Ren := ⟨fun | 106 => 115 | 213 => 151 | 265 => 185 | n => n, fun | 9 => 9 | 3 => 3 | n => n, fun | n => n⟩
theorem Tryz.AQ : Go.Proofs.Lays.n106 Tryz.prog Tryz.tG := {
  mixed := by kernel_rfl
  f106 := Tryz.func115.trans (congrArg some (by kernel_rfl))
  f213 := Tryz.func151.trans (congrArg some (by kernel_rfl))
  f265 := Tryz.func185.trans (congrArg some (by kernel_rfl))
  t3 := Tryz.underlying3
  a3 := Tryz.isAgg3
  z3 := Tryz.sizeOf3
  v3 := Tryz.zeroValue3
  t9 := Tryz.underlying9
  a9 := Tryz.isAgg9
  z9 := Tryz.sizeOf9
  v9 := Tryz.zeroValue9 }
open Go.RowKit in
theorem Tryz.strings_Compare (a b : ByteArray) (w : World) :
    Calls Tryz.prog 115 #[.string a, .string b] w fun e w' => e = .returned (.int .i64 (Lib.compareBytes a.data.toList b.data.toList)) ∧ w' = w := Any.strings_Compare Tryz.AQ a b w
end Go.Proofs
namespace Go.Proofs
open Go.Shelf
def Tryz.tm : Go.Shelf.Ren := ⟨fun | 6 => 113 | 15 => 148 | 14 => 147 | 28 => 182 | 29 => 183 | 20 => 174 | 21 => 175 | 22 => 176 | 23 => 177 | 24 => 178 | 25 => 179 | 26 => 180 | 27 => 181 | 46 => 204 | 47 => 205 | 48 => 206 | 49 => 207 | 50 => 208 | 57 => 219 | n => n, fun | 22 => 39 | 24 => 28 | 25 => 95 | 3 => 3 | 39 => 138 | 0 => 0 | 53 => 186 | 55 => 56 | 4 => 4 | 46 => 180 | 45 => 179 | 50 => 44 | 5 => 5 | 9 => 9 | 66 => 209 | 70 => 213 | 76 => 222 | 77 => 52 | n => n, fun | n => n⟩
theorem Tryz.vu : Go.Proofs.SlLaysF0.n6 Tryz.prog Tryz.tm := {
  mixed := by kernel_rfl
  f6 := ⟨Tryz.f113.name, by decide, Tryz.func113.trans (congrArg some (by kernel_rfl))⟩
  f14 := ⟨Tryz.f147.name, by decide, Tryz.func147.trans (congrArg some (by kernel_rfl))⟩
  f15 := Tryz.func148.trans (congrArg some (by kernel_rfl))
  f20 := ⟨Tryz.f174.name, by decide, Tryz.func174.trans (congrArg some (by kernel_rfl))⟩
  f21 := ⟨Tryz.f175.name, by decide, Tryz.func175.trans (congrArg some (by kernel_rfl))⟩
  f22 := ⟨Tryz.f176.name, by decide, Tryz.func176.trans (congrArg some (by kernel_rfl))⟩
  f23 := ⟨Tryz.f177.name, by decide, Tryz.func177.trans (congrArg some (by kernel_rfl))⟩
  f24 := ⟨Tryz.f178.name, by decide, Tryz.func178.trans (congrArg some (by kernel_rfl))⟩
  f25 := ⟨Tryz.f179.name, by decide, Tryz.func179.trans (congrArg some (by kernel_rfl))⟩
  f26 := ⟨Tryz.f180.name, by decide, Tryz.func180.trans (congrArg some (by kernel_rfl))⟩
  f27 := ⟨Tryz.f181.name, by decide, Tryz.func181.trans (congrArg some (by kernel_rfl))⟩
  f28 := Tryz.func182.trans (congrArg some (by kernel_rfl))
  f29 := Tryz.func183.trans (congrArg some (by kernel_rfl))
  f46 := ⟨Tryz.f204.name, by decide, Tryz.func204.trans (congrArg some (by kernel_rfl))⟩
  f47 := Tryz.func205.trans (congrArg some (by kernel_rfl))
  f48 := Tryz.func206.trans (congrArg some (by kernel_rfl))
  f49 := ⟨Tryz.f207.name, by decide, Tryz.func207.trans (congrArg some (by kernel_rfl))⟩
  f50 := ⟨Tryz.f208.name, by decide, Tryz.func208.trans (congrArg some (by kernel_rfl))⟩
  f57 := ⟨Tryz.f219.name, by decide, Tryz.func219.trans (congrArg some (by kernel_rfl))⟩
  t0 := Tryz.underlying0
  a0 := Tryz.isAgg0
  z0 := Tryz.sizeOf0
  v0 := Tryz.zeroValue0
  t3 := Tryz.underlying3
  a3 := Tryz.isAgg3
  z3 := Tryz.sizeOf3
  v3 := Tryz.zeroValue3
  t4 := Tryz.underlying4
  a4 := Tryz.isAgg4
  z4 := Tryz.sizeOf4
  v4 := Tryz.zeroValue4
  t5 := Tryz.underlying5
  a5 := Tryz.isAgg5
  z5 := Tryz.sizeOf5
  v5 := Tryz.zeroValue5
  t9 := Tryz.underlying9
  a9 := Tryz.isAgg9
  z9 := Tryz.sizeOf9
  v9 := Tryz.zeroValue9
  t22 := Tryz.underlying39
  a22 := Tryz.isAgg39
  z22 := Tryz.sizeOf39
  v22 := Tryz.zeroValue39
  t25 := Tryz.underlying95
  a25 := Tryz.isAgg95
  z25 := Tryz.sizeOf95
  v25 := Tryz.zeroValue95
  t39 := Tryz.underlying138
  a39 := Tryz.isAgg138
  z39 := Tryz.sizeOf138
  v39 := Tryz.zeroValue138
  t45 := Tryz.underlying179
  a45 := Tryz.isAgg179
  z45 := Tryz.sizeOf179
  v45 := Tryz.zeroValue179
  t46 := Tryz.underlying180
  a46 := Tryz.isAgg180
  z46 := Tryz.sizeOf180
  v46 := Tryz.zeroValue180
  t50 := Tryz.underlying44
  a50 := Tryz.isAgg44
  z50 := Tryz.sizeOf44
  v50 := Tryz.zeroValue44
  t53 := Tryz.underlying186
  a53 := Tryz.isAgg186
  z53 := Tryz.sizeOf186
  v53 := Tryz.zeroValue186
  t55 := Tryz.underlying56
  a55 := Tryz.isAgg56
  z55 := Tryz.sizeOf56
  v55 := Tryz.zeroValue56
  t66 := Tryz.underlying209
  a66 := Tryz.isAgg209
  z66 := Tryz.sizeOf209
  v66 := Tryz.zeroValue209
  t70 := Tryz.underlying213
  a70 := Tryz.isAgg213
  z70 := Tryz.sizeOf213
  v70 := Tryz.zeroValue213
  t76 := Tryz.underlying222
  a76 := Tryz.isAgg222
  z76 := Tryz.sizeOf222
  v76 := Tryz.zeroValue222
  t77 := Tryz.underlying52
  a77 := Tryz.isAgg52
  z77 := Tryz.sizeOf52
  v77 := Tryz.zeroValue52 }
end Go.Proofs
namespace Go.Proofs.YtmjlmloomkodpaaGreatDoor.Dr
open Go Go.Proofs Go.RowKit Go.Sort
def xj {α : Type} (n : Nat) : Result α → Prop
  | .ok _ w => n ≤ w.drawn
  | .halt _ w => n ≤ w.drawn
theorem vg {α : Type} : ∀ (k : Ask α) (w : World), w.drawn ≤ (w.ask k).2.drawn
  | .done a, w => Nat.le_refl _
  | .ask what range k, w => by
    unfold World.ask
    simp only []
    split
    · exact vg _ w
    · exact Nat.le_of_succ_le (vg _ { w with drawn := w.drawn + 1 })
theorem Dj (w : World) (c : Sys) : w.drawn ≤ (w.sys c).2.drawn := by
  unfold World.sys
  have h := vg (Kernel.perform c w.os) w
  split
  · exact Nat.le_refl _
  · rename_i heq
    rw [heq] at h
    exact h
theorem tZ {ε α β : Type} {x : Except ε α} {f : α → Except ε β} {b : β} (h : (x >>= f) = .ok b) : ∃ a, x = .ok a ∧ f a = .ok b := by
  cases x with
  | error e => cases h
  | ok a => exact ⟨a, rfl, h⟩
theorem oG {p : Program} {w w' : World} {a : Addr} {u : TypeId} {k : Addr} {v : Value} {b : Bool} {l : List Addr} (h : w.viewStore p a u k v b = .ok (w', l)) : w'.drawn = w.drawn := by
  unfold World.viewStore at h
  repeat' first
    | (simp at h; done)
    | (obtain ⟨h1, h2⟩ := Prod.mk.inj (Except.ok.inj h); rw [← h1]; done)
    | (obtain ⟨_, _, h⟩ := tZ h)
    | split at h
theorem pN {p : Program} {w w' : World} {a : Addr} {v : Value} {b : Bool} {l : List Addr} (h : w.farStore p a v b = .ok (w', l)) : w'.drawn = w.drawn := by
  unfold World.farStore at h
  split at h
  · split at h
    · rename_i r hr
      obtain rfl := Except.ok.inj h
      exact oG hr
    · cases h
  · cases h
theorem pv {α : Type} (p : Program) (s : Sem α) : ∀ w : World, xj w.drawn (s.run p w) := by
  induction s with
  | pure a => intro w; exact Nat.le_refl _
  | load m a k ih =>
    intro w
    simp only [Sem.run]
    split
    · exact ih _ w
    · split
      · exact ih _ w
      · exact Nat.le_refl _
  | store m a v k ih =>
    intro w
    have hmain : xj w.drawn (match w.cell? a with
      | some _ => if w.frozen? a then .halt (.unsupported (.unsafePointer "a write to bytes that a string shares")) w else k.run p (w.setCell a v)
      | none => match w.farStore p a v (m == .atomic) with
        | .ok (w, _) => k.run p w
        | .error h => .halt h w) := by
      split
      · split
        · exact Nat.le_refl _
        · exact ih (w.setCell a v)
      · split
        · rename_i heq
          have h1 := pN heq
          have h2 := ih ‹World›
          rwa [h1] at h2
        · exact Nat.le_refl _
    cases v <;> first | exact Nat.le_refl _ | (simp only [Sem.run]; exact hmain)
  | new o k ih => intro w; exact ih _ _
  | shape r k ih => intro w; exact ih _ _
  | freeze a n k ih =>
    intro w
    have h := ih (w.freeze a n)
    rwa [show (w.freeze a n).drawn = w.drawn by unfold World.freeze; split <;> rfl] at h
  | frozen a k ih => intro w; exact ih _ _
  | getObj r k ih =>
    intro w
    simp only [Sem.run]
    split
    · exact Nat.le_refl _
    · exact ih _ w
    · exact Nat.le_refl _
  | setObj r o k ih =>
    intro w
    simp only [Sem.run]
    split
    · exact Nat.le_refl _
    · exact ih { w with heap := w.heap.setIfInBounds r o }
    · exact Nat.le_refl _
  | choose q k ih =>
    intro w
    simp only [Sem.run]
    split
    · exact ih _ w
    · have h := ih (q.cut (w.tape w.drawn q)) { w with drawn := w.drawn + 1 }
      revert h
      cases (k (q.cut (w.tape w.drawn q))).run p { w with drawn := w.drawn + 1 } <;> exact fun h => Nat.le_of_succ_le h
  | sys c k ih =>
    intro w
    have h := ih (w.sys c).1 (w.sys c).2
    have h0 := Dj w c
    simp only [Sem.run]
    revert h
    cases (k (w.sys c).1).run p (w.sys c).2 <;> exact fun h => Nat.le_trans h0 h
  | program k ih => intro w; exact ih p w
  | mark m k ih => intro w; exact ih _
  | halt h => intro w; exact Nat.le_refl _
theorem dK {α : Type} {p : Program} {s : Sem α} {w w' : World} {a : α} (h : s.run p w = .ok a w') : w.drawn ≤ w'.drawn := by
  have := pv p s w
  rwa [h] at this
theorem run_halt {α : Type} {p : Program} {s : Sem α} {w w' : World} {a : Halt} (h : s.run p w = .halt a w') : w.drawn ≤ w'.drawn := by
  have := pv p s w
  rwa [h] at this
theorem Au {α : Type} {p : Program} {s : Sem α} {w w' : World} {a : α} {e es : Array Event} (h : s.runT p w e = (.ok a w', es)) : w.drawn ≤ w'.drawn :=
  dK (s := s) (by rw [← Sem.runT_fst p s w e, h])
theorem xJ {α : Type} {p : Program} {s : Sem α} {w w' : World} {a : Halt} {e es : Array Event} (h : s.runT p w e = (.halt a w', es)) : w.drawn ≤ w'.drawn :=
  run_halt (s := s) (by rw [← Sem.runT_fst p s w e, h])
theorem dL {α : Type} {p : Program} {s : Sem α} {w w' : World} {a : α} {e : Array Event} (h : (s.runT p w e).1 = .ok a w') : w.drawn ≤ w'.drawn :=
  dK (s := s) (by rw [← Sem.runT_fst p s w e, h])
theorem jr {α : Type} {p : Program} {s : Sem α} {w w' : World} {a : Halt} {e : Array Event} (h : (s.runT p w e).1 = .halt a w') : w.drawn ≤ w'.drawn :=
  run_halt (s := s) (by rw [← Sem.runT_fst p s w e, h])
def GGe (n : Nat) : GStep → Prop
  | .ended .. => True
  | .go _ w _ => n ≤ w.drawn
  | .comm _ _ _ _ w _ => n ≤ w.drawn
  | .spawn _ _ w _ => n ≤ w.drawn
  | .count _ w _ => n ≤ w.drawn
  | .timer _ _ w _ => n ≤ w.drawn
  | .alone _ _ w _ => n ≤ w.drawn
  | .newcoro _ _ _ w _ => n ≤ w.drawn
  | .coroswitch _ _ _ w _ => n ≤ w.drawn
  | .collect _ w _ => n ≤ w.drawn
  | .watch _ w _ => n ≤ w.drawn
theorem GGe.after {n : Nat} {es : Array Event} {s : GStep} (h : GGe n s) : GGe n (s.after es) := by
  cases s <;> exact h
theorem GGe.le {m n : Nat} {s : GStep} (h : GGe n s) (hm : m ≤ n) : GGe m s := by
  cases s <;> first | trivial | exact Nat.le_trans hm h
theorem GGe.ite {n : Nat} {c : Prop} [Decidable c] {a b : GStep} (h1 : GGe n a) (h2 : GGe n b) : GGe n (if c then a else b) := by
  split <;> assumption
theorem GGe.elim {α : Type} {n : Nat} {o : Option α} {a : GStep} {f : α → GStep} (h1 : GGe n a) (h2 : ∀ x, GGe n (f x)) : GGe n (o.elim a f) := by
  cases o with
  | none => exact h1
  | some x => exact h2 x
theorem jZ (p : Program) (main : Bool) (fr : Frame) (callers : List Frame) (dying : Option Dying) (v : Value) (w : World) : GGe w.drawn (doReturn p main fr callers dying v w) := by
  unfold doReturn
  repeat' first
    | exact Nat.le_refl _
    | trivial
    | split
theorem lF (fr : Frame) (m : String) (w : World) : GGe w.drawn (endThrow fr m w) := Nat.le_refl _
theorem lG (p : Program) (fr : Frame) (v : Value) (w : World) : GGe w.drawn (endPrinting p fr v w) := by
  unfold endPrinting
  simp only []
  split
  · exact Nat.le_refl _
  · trivial
theorem ow (p : Program) (fr : Frame) (callers : List Frame) (dying : Option Dying) (m : String) (w : World) : GGe w.drawn (endFatal p fr callers dying m w) := by
  unfold endFatal
  simp only []
  split
  · rename_i heq
    exact dK heq
  · trivial
  · trivial
theorem u6 (w : World) (fd : Nat) (text : ByteArray) (o : Outcome) : GGe w.drawn (endWith w fd text o) := by
  unfold endWith
  repeat' first
    | exact Nat.le_refl _
    | trivial
    | split
theorem uu (p : Program) (fr : Frame) (d : Dying) (f : Fatal) (w : World) : GGe w.drawn (writeOn p fr d f w) := by
  unfold writeOn
  simp only []
  repeat' first
    | exact Nat.le_refl _
    | trivial
    | (rename_i heq; exact Au heq)
    | (rename_i heq; exact xJ heq)
    | split
theorem DV (p : Program) (fr : Frame) (d : Dying) (w : World) : GGe w.drawn (die p fr d w) := by
  unfold die
  simp only []
  repeat' first
    | exact Nat.le_refl _
    | trivial
    | (rename_i heq; exact dK heq)
    | (rename_i heq; exact run_halt heq)
    | (rename_i heq; exact dL heq)
    | (rename_i heq; exact jr heq)
    | (rename_i heq _; exact dL heq)
    | (rename_i heq _ _ _; exact dL heq)
    | (rename_i heq _ _ _ _; exact dL heq)
    | exact uu _ _ _ _ _
    | exact u6 _ _ _ _
    | (rename_i heq; exact GGe.le (lG _ _ _ _) (jr heq))
    | (refine GGe.after ?_)
    | split
theorem oO (p : Program) (fr : Frame) (callers : List Frame) (dying : Option Dying) (d : Deferred) (w : World) : GGe w.drawn (callDeferred p fr callers dying d w) := by
  unfold callDeferred
  simp only []
  refine GGe.ite trivial ?_
  · refine GGe.after ?_
    generalize hr : (Sem.runT p (invoke d.target d.args) w #[]).1 = r
    have hge : xj w.drawn r := by rw [← hr, Sem.runT_fst]; exact pv _ _ _
    clear hr
    repeat' first
      | exact hge
      | trivial
      | exact GGe.le (ow _ _ _ _ _ _) hge
      | exact GGe.le (lF _ _ _) hge
      | split
theorem xA (p : Program) (main : Bool) (fr : Frame) (callers : List Frame) (dying : Option Dying) (w : World) : GGe w.drawn (unwind p main fr callers dying w) := by
  unfold unwind
  simp only []
  repeat' first
    | exact Nat.le_refl _
    | trivial
    | (rename_i heq; exact dK heq)
    | (rename_i heq; exact run_halt heq)
    | (rename_i heq; exact dL heq)
    | (rename_i heq; exact jr heq)
    | (rename_i heq _; exact dL heq)
    | (rename_i heq _ _ _; exact dL heq)
    | (rename_i heq _ _ _ _; exact dL heq)
    | exact oO _ _ _ _ _ _
    | exact jZ _ _ _ _ _ _ _
    | exact lG _ _ _ _
    | (rename_i heq; exact GGe.le (jZ _ _ _ _ _ _ _) (dL heq))
    | (refine GGe.after ?_)
    | split
theorem zr (p : Program) (fr : Frame) (callers : List Frame) (dying : Option Dying) (g : Nat) (w : World) : GGe w.drawn (early p fr callers dying g w) := by
  unfold early
  simp only []
  repeat' first
    | exact Nat.le_refl _
    | trivial
    | (rename_i heq; exact dK heq)
    | (rename_i heq; exact run_halt heq)
    | (rename_i heq; exact dL heq)
    | (rename_i heq; exact jr heq)
    | (rename_i heq _; exact dL heq)
    | (rename_i heq _ _ _; exact dL heq)
    | (rename_i heq _ _ _ _; exact dL heq)
    | (rename_i heq _ _; exact dK heq)
    | (rename_i heq _ _ _ _; have h1 := dK heq; exact h1)
    | (rename_i heq _; exact dK heq)
    | (rename_i heq _ _ _; exact dK heq)
    | split
theorem nk (p : Program) (b : Bool) (fr : Frame) (callers : List Frame) (dying : Option Dying) (s : Sem Next) (w : World) : GGe w.drawn (stepG.apply p b fr callers dying s w) := by
  unfold stepG.apply
  simp only []
  refine GGe.after ?_
  generalize hr : (if b = true then s.runT p w #[] else (s.run p w, #[])).1 = r
  have hge : xj w.drawn r := by
    rw [← hr]
    split
    · rw [Sem.runT_fst]; exact pv _ _ _
    · exact pv _ _ _
  clear hr
  repeat' first
    | exact hge
    | trivial
    | exact GGe.le (ow _ _ _ _ _ _) hge
    | exact GGe.le (lF _ _ _) hge
    | exact GGe.le (zr _ _ _ _ _ _) hge
    | split
theorem AD (p : Program) (b : Bool) (fr : Frame) (callers : List Frame) (dying : Option Dying) (w : World) : GGe w.drawn (stepG.oper p b fr callers dying w) := by
  unfold stepG.oper
  split
  · trivial
  · split <;> exact nk _ _ _ _ _ _ _
theorem Ci (p : Program) (main b : Bool) (fr : Frame) (callers : List Frame) (dying : Option Dying) (w : World) : GGe w.drawn (stepG.exec p main b fr callers dying w) := by
  unfold stepG.exec
  simp only []
  repeat' first
    | exact Nat.le_refl _
    | trivial
    | (rename_i heq; exact dK heq)
    | (rename_i heq; exact run_halt heq)
    | (rename_i heq; exact dL heq)
    | (rename_i heq; exact jr heq)
    | (rename_i heq _; exact dL heq)
    | (rename_i heq _ _ _; exact dL heq)
    | (rename_i heq _ _ _ _; exact dL heq)
    | exact nk _ _ _ _ _ _ _
    | exact AD _ _ _ _ _ _
    | exact jZ _ _ _ _ _ _ _
    | (rename_i heq; exact GGe.le (jZ _ _ _ _ _ _ _) (dL heq))
    | (rename_i heq; exact GGe.le (nk _ _ _ _ _ _ _) (dL heq))
    | (rename_i heq _ _; exact GGe.le (nk _ _ _ _ _ _ _) (dL heq))
    | (refine GGe.after ?_)
    | (refine GGe.elim ?_ (fun _ => ?_))
    | split
theorem yJ (p : Program) (main : Bool) (g : Goroutine) (w : World) (b : Bool) : GGe w.drawn (stepG p main g w b) := by
  obtain ⟨fr, callers, status, dying, offers⟩ := g
  unfold stepG
  simp only []
  split
  · exact DV _ _ _ _
  · exact Ci _ _ _ _ _ _ _
  · exact xA _ _ _ _ _ _
def SGe (n : Nat) : Stepped → Prop
  | .next m => n ≤ m.world.drawn
  | .ended .. => True
theorem SGe.le {m n : Nat} {s : Stepped} (h : SGe n s) (hm : m ≤ n) : SGe m s := by
  cases s <;> first | trivial | exact Nat.le_trans hm h
theorem oE {rest : Rest} {cases : Array CommCase} {w w' : World} (h : waitingAt rest cases w = some w') : w'.drawn = w.drawn := by
  unfold waitingAt at h
  repeat' first
    | (simp at h; done)
    | (obtain rfl := Option.some.inj h; rfl)
    | split at h
theorem pQ (p : Program) (rest : Rest) (gs : Array Goroutine) (i : Nat) (g : Goroutine) (cases : Array CommCase) (blocking : Bool) (shape : CommShape) (w : World) :
    SGe w.drawn (communicate p rest gs i g cases blocking shape w).1 := by
  unfold communicate
  simp only []
  repeat' first
    | exact Nat.le_refl _
    | trivial
    | (rename_i heq; exact Nat.le_of_eq (oE heq).symm)
    | (have h1 := dK ‹Sem.run p _ w = Result.ok _ _›; exact h1)
    | (have h1 := dK ‹Sem.run p _ w = Result.ok _ _›; have h2 := dK ‹Sem.run p (choose _) _ = Result.ok _ _›; exact Nat.le_trans h1 h2)
    | (have h1 := dK ‹Sem.run p _ w = Result.ok _ _›; have h2 := run_halt ‹Sem.run p _ _ = Result.halt _ _›; exact Nat.le_trans h1 h2)
    | split
theorem vD (p : Program) (gs : Array Goroutine) (rest : Rest) (w : World) : SGe w.drawn (look p gs rest w) := by
  unfold look
  simp only []
  repeat' first
    | exact Nat.le_refl _
    | trivial
    | (have h1 := dK ‹Sem.run p _ w = Result.ok _ _›; exact h1)
    | split
theorem yL (p : Program) (m : Machine) (k : Nat) : SGe m.world.drawn (serve p m k) := by
  unfold serve
  simp only []
  repeat' first
    | exact Nat.le_refl _
    | trivial
    | split
theorem uc (w : World) (c : Nat) : (drain w c).2.drawn = w.drawn := by
  unfold drain
  split <;> rfl
theorem mP (m : Machine) (k : Nat) (t : Timer) (a b : Nat) : (retime m k t a b).2.world.drawn = m.world.drawn := by
  unfold retime
  simp only []
  split
  · exact uc _ _
  · rfl
theorem om {m m' : Machine} {var : Addr} {f : Nat → Timer → Value × Machine} {v : Value} {n : Nat} (hf : ∀ k t, (f k t).2.world.drawn = n) (h : timerOp.named m var f = .ok (v, m')) : m'.world.drawn = n := by
  unfold timerOp.named at h
  split at h
  · have h1 := Except.ok.inj h
    have h2 := hf ‹Nat› (m.rest.timers.getD ‹Nat› default)
    rw [h1] at h2
    exact h2
  · cases h
theorem ru {m m' : Machine} {var : Addr} (h : timerOp.opened m var = some m') : m'.world.drawn = m.world.drawn := by
  unfold timerOp.opened at h
  repeat' first
    | (simp at h; done)
    | (obtain rfl := Option.some.inj h; rfl)
    | split at h
theorem qm {m m' : Machine} {op : TimerOp} {v : Value} (h : timerOp m op = .ok (v, m')) : m'.world.drawn = m.world.drawn := by
  unfold timerOp at h
  simp only [] at h
  repeat' first
    | (simp at h; done)
    | (obtain ⟨_, h2⟩ := Prod.mk.inj (Except.ok.inj h); rw [← h2]; done)
    | (obtain ⟨_, h2⟩ := Prod.mk.inj (Except.ok.inj h); rw [← h2]; rfl)
    | exact om (fun _ _ => mP _ _ _ _ _) h
    | exact (om (fun _ _ => mP _ _ _ _ _) h).trans (ru ‹timerOp.opened _ _ = some _›)
    | split at h
theorem Aw (p : Program) (m : Machine) (i : Nat) (b : Bool) : SGe m.world.drawn (runT p m i b).1 := by
  simp only [runT]
  generalize m.gs.swapAt! _ _ = gg
  have hg := yJ p (i == 0) gg.1 m.world b
  revert hg
  generalize stepG p (i == 0) gg.1 m.world b = s
  intro hg
  cases s with
  | timer g op w es =>
    simp only []
    split
    · rename_i heq
      have h1 := qm heq
      exact Nat.le_trans hg (Nat.le_of_eq h1.symm)
    · split
      · rename_i heq
        have h2 := lF g.frame ‹String› w
        rw [heq] at h2
        exact Nat.le_trans hg h2
      · trivial
    · trivial
    · trivial
  | _ =>
    simp only []
    repeat' first
      | exact hg
      | trivial
      | exact SGe.le (pQ _ _ _ _ _ _ _ _ _) hg
      | exact SGe.le (vD _ _ _ _) hg
      | split
def MGe (n : Nat) : Move → Prop
  | .goroutine m _ => n ≤ m.world.drawn
  | .machine s _ => SGe n s
theorem MGe.le {m n : Nat} {s : Move} (h : MGe n s) (hm : m ≤ n) : MGe m s := by
  cases s with
  | goroutine m' i => exact Nat.le_trans hm h
  | machine s ops => exact SGe.le h hm
theorem pU (p : Program) (m : Machine) : MGe m.world.drawn (askOn p m) := by
  unfold askOn
  simp only []
  split
  · trivial
  · rename_i k world h4
    have h4 := dK h4
    split
    · exact SGe.le (yL _ _ _) h4
    · split
      · split
        · exact h4
        · split
          · exact h4
          · split <;> trivial
      · split
        · repeat' first
            | trivial
            | (have h1 := dK ‹Sem.run p (choose (.extern "sched.slice" 65536)) _ = .ok _ _›; have h2 := dK ‹Sem.run p (choose (.sched _)) _ = .ok _ _›; exact Nat.le_trans h4 (Nat.le_trans h2 h1))
            | (have h2 := dK ‹Sem.run p (choose (.sched _)) _ = .ok _ _›; exact Nat.le_trans h4 h2)
            | split
        · split
          · trivial
          · rename_i h3
            have h3 := dK h3
            repeat' first
              | trivial
              | (have h1 := dK ‹Sem.run p (choose (.extern "sched.slice" 65536)) _ = .ok _ _›; have h2 := dK ‹Sem.run p (choose (.sched _)) _ = .ok _ _›; exact Nat.le_trans h4 (Nat.le_trans h3 (Nat.le_trans h2 h1)))
              | (have h2 := dK ‹Sem.run p (choose (.sched _)) _ = .ok _ _›; exact Nat.le_trans h4 (Nat.le_trans h3 h2))
              | split
          · rename_i h3
            have h3 := dK h3
            exact Nat.le_trans h4 h3
          · rename_i h3
            have h3 := dK h3
            repeat' first
              | trivial
              | (have h1 := dK ‹Sem.run p (choose (.extern "sched.slice" 65536)) _ = .ok _ _›; have h2 := dK ‹Sem.run p (choose (.sched _)) _ = .ok _ _›; exact Nat.le_trans h4 (Nat.le_trans h3 (Nat.le_trans h2 h1)))
              | (have h2 := dK ‹Sem.run p (choose (.sched _)) _ = .ok _ _›; exact Nat.le_trans h4 (Nat.le_trans h3 h2))
              | split
theorem Cq (p : Program) (m : Machine) : MGe m.world.drawn (ask p m) := by
  unfold ask
  split
  · split
    · trivial
    · rename_i h1
      have h1 := dK h1
      have h2 := vD p m.gs m.rest ‹World›
      split
      · rename_i heq
        rw [heq] at h2
        exact MGe.le (pU _ _) (Nat.le_trans h1 h2)
      · exact SGe.le h2 h1
    · rename_i h1
      exact MGe.le (pU _ _) (dK h1)
  · exact pU p m
theorem AG (p : Program) (m : Machine) : MGe m.world.drawn (move p m) := by
  unfold move
  repeat' first
    | exact Nat.le_refl _
    | trivial
    | exact Cq p _
    | split
theorem Ap (p : Program) (m : Machine) : SGe m.world.drawn (step p m) := by
  simp only [step, stepT]
  have h := AG p m
  split
  · rename_i heq
    rw [heq] at h
    exact SGe.le (Aw _ _ _ _) h
  · rename_i heq
    rw [heq] at h
    exact h
theorem yI {p : Program} {m m' : Machine} (h : Steps p m m') : m.world.drawn ≤ m'.world.drawn := by
  obtain ⟨n, hn⟩ := h
  induction n generalizing m with
  | zero => simp only [runN, Stepped.next.injEq] at hn; rw [hn]; exact Nat.le_refl _
  | succ n ih =>
    simp only [runN] at hn
    have h1 := Ap p m
    split at hn
    · rename_i heq
      rw [heq] at h1
      exact Nat.le_trans h1 (ih hn)
    · rename_i h2 
      rw [hn] at h1
      exact h1
theorem ug {P : Program} {f : FuncId} {args : Array Value} {w : World} {R : Ending → World → Prop} (h : Calls P f args w fun e w' => (∃ v, e = .returned v) ∧ R e w') : Calls P f args w fun e w' => R e w' ∧ w.drawn ≤ w'.drawn := by
  intro cs
  obtain ⟨e, w', fr, ⟨⟨v, hv⟩, hR⟩, hc, hf, hl⟩ := h cs
  subst hv
  exact ⟨_, w', fr, ⟨hR, yI (m := lone (Frame.enter P f args .normal) cs w) (m' := lone fr cs w') hc⟩, hc, hf, hl⟩
theorem qy {W W' : World} (h : Below W.heap.size W W') (hd : W.drawn ≤ W'.drawn) : ∃ q os', W' = grow (W.drewN q) os' := by
  refine ⟨W'.drawn - W.drawn, W'.heap.extract W.heap.size W'.heap.size, ?_⟩
  obtain ⟨h1, h2, h3, h4, h5⟩ := h
  cases W' with
  | mk heap tape drawn os output =>
    simp only at h1 h2 h3 h4 h5 hd
    subst h1 h2 h3
    unfold grow World.drewN
    simp only [World.mk.injEq, and_true, true_and]
    refine ⟨?_, by omega⟩
    apply Array.ext_getElem?
    intro k
    by_cases hk : k < W.heap.size
    · rw [h5 k hk, Array.getElem?_append_left hk]
    · rw [Array.getElem?_append_right (by omega), Array.getElem?_extract]
      split
      · congr 1; omega
      · rw [Array.getElem?_eq_none (by omega)]
end Go.Proofs.YtmjlmloomkodpaaGreatDoor.Dr
namespace Go.Proofs.YtmjlmloomkodpaaGreatDoor.PA
open Go.RowKit Go.Proofs.ae.aw Go.Proofs.ae.aJ Go.Proofs.ae.aN
attribute [local go_sem] bo bm bC bB a6 aZ bn bj
set_option linter.unusedVariables false
set_option linter.unusedSimpArgs false
def EJ : Option Int → Value
  | none => .nilIface
  | some c => .iface 0 (.int .i64 c)
theorem av : EJ none = .nilIface := rfl
theorem au (c : Int) : EJ (some c) = .iface 0 (.int .i64 c) := rfl
structure aY (W : World) where
  w : World
  h : Below W.heap.size W w
instance (W : World) : Inhabited (aY W) := ⟨⟨W, Below.refl _ W⟩⟩
theorem aY.cell {W : World} {a : Addr} {v : Value} (h : W.cell? a = some v) (p : aY W) : p.w.cell? a = some v := mg p.h h
theorem aY.ret {P : Program} {f : FuncId} {args : Array Value} {W : World} {p : aY W} {v : Value} (h : Calls P f args p.w fun e w' => e = .returned v ∧ Below p.w.heap.size p.w w') :
    Calls P f args p.w fun e w' => e = .returned v ∧ ∃ q : aY W, w' = q.w :=
  h.mono fun _ w' ⟨he, hb⟩ => ⟨he, ⟨w', p.h.trans (hb.mono p.h.size)⟩, rfl⟩
theorem aY.xK {P : Program} {f : FuncId} {args : Array Value} {W : World} {p : aY W} {v : Value} (h : Calls P f args p.w fun e w' => e = .returned v ∧ aK p.w w') :
    Calls P f args p.w fun e w' => e = .returned v ∧ ∃ q : aY W, w' = q.w :=
  h.mono fun _ w' ⟨he, ⟨n, hn⟩⟩ => ⟨he, ⟨w', by subst hn; exact af p.h n⟩, rfl⟩
theorem dz {P : Program} {id : Nat} {Q : Exit → Act → World → Prop} {a : Act} {W : World} {l : List Oper} (hm : P.follows .mixedOrders = true) (hB : Region.lexB .any l.toArray = true)
    (h : wpQuiet P l.toArray (fun w' => ∃ p : aY W, w' = p.w) (fun a' => ∀ w', (∃ p : aY W, w' = p.w) → Q .normal a' w') l a) : (Code.region id l.toArray true).wp P Q a W :=
  wp_region_quiet (C := fun w' => ∃ p : aY W, w' = p.w) hm hB ⟨⟨_, (Below.refl _ W).drew⟩, rfl⟩ (by simpa using h)
theorem dR {α : Type} {d : Kd α} {w W : World} {A : Option Addr} {n : Nat} {xs : List α} (h : d.C w A n xs) (hb : Below w.heap.size w W) (p : aY W) : d.C p.w A n xs := Kd.ax h (hb.trans (p.h.mono hb.size))
theorem js {k : IntKind} {e : Nat} {w w1 : World} {base : Nat} {v u : Value} {xs : List Int} (h : Kd.R (Kd.int k) e w base (fun _ => True) v xs) (hg : w.grownBy w1 u.ownBlock) (hne : hZ v u) : Kd.R (Kd.int k) e w1 base (fun _ => True) v xs :=
  Kd.bV (Kd.Cx (Kd.j3 rfl h) hg (fun b hb he => hne b hb.symm he.symm)) (fun _ _ => trivial)
theorem oT {k : IntKind} {e : Nat} {w w1 : World} {base g : Nat} {row : Option Nat} {v : Value} {xs : List Int} (h : Kd.R (Kd.int k) e w base (fun _ => True) v xs) (hk : cX w w1 g row) (hg : some g ≠ v.ownBlock) (hne : ∀ b, v.ownBlock = some b → row ≠ some b) : Kd.R (Kd.int k) e w1 base (fun _ => True) v xs :=
  Kd.bV (Kd.pZ (Kd.j3 rfl h) (fun b hb hlt => hk.2 b hlt (fun e => hg (e ▸ hb)) (fun e => hne b hb.symm e.symm))) (fun _ _ => trivial)
theorem jt {k : IntKind} {e : Nat} {w w1 : World} {base : Nat} {v : Value} {xs : List Int} (h : Kd.R (Kd.int k) e w base (fun _ => True) v xs) (hb : Below w.heap.size w w1) : Kd.R (Kd.int k) e w1 base (fun _ => True) v xs := Kd.cx h hb
theorem mD {k : IntKind} {e : Nat} {W : World} {base : Nat} {v v1 v' : Value} {xs : List Int} (h : hZ v v') (hat : v1.ownBlock = v.ownBlock ∨ ∃ b, v1.ownBlock = some b ∧ W.heap.size ≤ b) (ho : Kd.R (Kd.int k) e W base (fun _ => True) v' xs) : hZ v1 v' := by
  obtain ⟨inner, hown⟩ := Kd.p8 ho
  exact xU h hat hown
theorem yT {k : IntKind} {e : Nat} {W : World} {base : Nat} {v v' : Value} {xs : List Int} (hv : ∀ b, v.ownBlock = some b → W.heap.size ≤ b) (ho : Kd.R (Kd.int k) e W base (fun _ => True) v' xs) : hZ v v' := fun b hb hb' => by
  have := Kd.ko ho b hb'
  have := hv b hb
  omega
theorem gM {k : IntKind} {e : Nat} {w : World} {base n c : Nat} {A : Option Addr} {xs : List Int} (h : Kd.R (Kd.int k) e w base (fun _ => True) (.slice A n c) xs) : Kd.C (Kd.int k) w A xs.length xs := (Kd.bZ h).2.2
section
variable {P : Program} {ops : Array Oper} {md : Region.Mode} {C : World → Prop}
def pj (P : Program) (md : Region.Mode) (ops : Array Oper) (C : World → Prop) (n : Nat) (L : Array Bool → Act → Prop) : Nat → Array Bool → Act → Prop
  | 0, listed, a => L listed a
  | f + 1, listed, a =>
    Region.ready md ops listed ≠ [] ∧ ∀ i ∈ Region.ready md ops listed, i < n ∧ qOp P ops C i (pj P md ops C n L f (listed.setIfInBounds i true)) a
theorem ph {n g : Nat} {L : Array Bool → Act → Prop} {Q' : Exit → Act → World → Prop} (hL : ∀ listed a w, C w → L listed a → wpAny P md ops Q' g listed a w) :
    ∀ (f : Nat) (listed : Array Bool) (a : Act) (w : World), C w → pj P md ops C n L f listed a → wpAny P md ops Q' (f + g) listed a w := by
  intro f
  induction f with
  | zero => intro listed a w hw h; rw [Nat.zero_add]; exact hL _ _ _ hw h
  | succ f ih =>
    intro listed a w hw h
    rw [show f + 1 + g = (f + g) + 1 by omega]
    exact ⟨fun h0 => absurd h0 h.1, fun i hi => wpOp_of_qOp hw (fun a' w' hw' h' => ih _ a' w' hw' h') (h.2 i hi).2⟩
theorem rh {n i : Nat} {oi : Oper} {v : Value} {L : Array Bool → Act → Prop} (hi : ops[i]? = some oi) (hsel : ∀ (j : Nat) (o : Oper) cs b, ops[j]? = some o → o.op ≠ .select cs b)
    (hs : Region.sinkB md ops n = true) (hc : Region.chainB md ops n = true) (hn : n < ops.size) (hin : i < n)
    (hdone : ∀ listed a, L listed a → ∀ j ∈ Region.ready md ops listed, n ≤ j) :
    ∀ (f : Nat) (listed : Array Bool) (a : Act), HeadInv md ops n listed →
      (∀ j oj, ops[j]? = some oj → j ≠ i → listed.getD j true = false → (∀ e ∈ oj.after, Region.binds md e = true → e.on ≠ i) → oi.apart ops oj = true) →
      i ∈ Region.ready md ops listed → YieldsIn P ops C oi v a →
      pj P md ops C n L f (listed.setIfInBounds i true) (a.put oi.dst v) → pj P md ops C n L (f + 1) listed a := by
  intro f
  induction f with
  | zero =>
    intro listed a inv _ hr hy H
    have hun := (mem_ready.1 hr).1
    refine ⟨fun h => (by rw [h] at hr; cases hr), fun j hj => ?_⟩
    have hjn : j < n := Nat.lt_of_not_le fun h => tail_waits hs hc hn inv _ i rfl hin hun j h hj
    refine ⟨hjn, ?_⟩
    by_cases hji : j = i
    · subst hji; exact hy.qOp hi H
    · have := hdone _ _ H j (ready_mono hj hji)
      omega
  | succ f ih =>
    intro listed a inv hfree hr hy H
    have hun := (mem_ready.1 hr).1
    refine ⟨fun h => (by rw [h] at hr; cases hr), fun j hj => ?_⟩
    have hjn : j < n := Nat.lt_of_not_le fun h => tail_waits hs hc hn inv _ i rfl hin hun j h hj
    refine ⟨hjn, ?_⟩
    by_cases hji : j = i
    · subst hji; exact hy.qOp hi H
    · have h1 := (H.2 j (ready_mono hj hji)).2
      obtain ⟨hjun, oj, hoj, hall⟩ := mem_ready.1 hj
      have hnot : ∀ e ∈ oj.after, Region.binds md e = true → e.on ≠ i := fun e he hb heq => by
        have h1 := hall e he hb
        rw [heq, getD_both hun] at h1
        cases h1
      have h2 := qOp_put hoj (hfree j oj hoj hji hjun hnot) (fun cs b => hsel i oi cs b hi) (fun cs b => hsel j oj cs b hoj) hy h1
      have hfree' : ∀ k ok, ops[k]? = some ok → k ≠ i → (listed.setIfInBounds j true).getD k true = false →
          (∀ e ∈ ok.after, Region.binds md e = true → e.on ≠ i) → oi.apart ops ok = true := fun k ok hk hki hun hno => by
        refine hfree k ok hk hki ?_ hno
        by_cases hjk : j = k
        · subst hjk; exact hjun
        · rw [getD_set_ne true hjk] at hun; exact hun
      refine qOp_mono (fun a' h3 => ih (listed.setIfInBounds j true) a' (inv.set hj hjn) hfree' (ready_mono hr (Ne.symm hji)) h3.1 ?_) h2
      rw [Array.setIfInBounds_comm _ _ hji]
      exact h3.2
theorem uv {n g : Nat} {Lq : Act → Prop} (hsel : Region.noSelect ops = true) (hs : Region.sinkB md ops n = true) (hc : Region.chainB md ops n = true) (hn : n < ops.size) :
    ∀ (l : List Oper) (k : Nat) (listed : Array Bool) (a : Act), (∀ j, j < l.length → l[j]? = ops[k + j]?) → k + l.length = n → HeadInv md ops n listed →
    Region.lexHead md ops g l.length k listed = true → wpQuiet P ops C Lq l a →
    pj P md ops C n (fun listed' a' => Region.seqB md ops g n listed' = true ∧ Lq a') l.length listed a := by
  intro l
  induction l with
  | nil =>
    intro k listed a _ hk _ hB h
    have : k = n := by simpa using hk
    subst this
    exact ⟨by simpa [Region.lexHead] using hB, h⟩
  | cons o l ih =>
    intro k listed a hl hk inv hB h
    have h0 : ops[k]? = some o := by simpa using (hl 0 (by simp)).symm
    simp only [List.length_cons, Region.lexHead, Bool.and_eq_true] at hB
    obtain ⟨⟨hr, hf⟩, hB'⟩ := hB
    have hkn : k < n := by simp only [List.length_cons] at hk; omega
    have hr' : k ∈ Region.ready md ops listed := by simpa using hr
    have hst : qOp P ops C k (wpQuiet P ops C Lq l) a := by unfold qOp; simp only [h0]; exact h
    obtain ⟨v, hy, hK⟩ := yieldsIn_of_qOp h0 hst
    exact rh h0 (Region.noSelect_spec hsel) hs hc hn hkn (fun listed' a' hL => seqB_ready hL.1) l.length listed a inv (Region.free_spec h0 hf) hr' hy
      (ih (k + 1) _ _ (fun j hj => by have := hl (j + 1) (by simp; omega); simpa [Nat.add_assoc, Nat.add_comm 1 j] using this) (by simp only [List.length_cons] at hk; omega) (inv.set hr' hkn) hB' hK)
end
theorem iW {P : Program} {id : Nat} {Q : Exit → Act → World → Prop} {a : Act} {W : World} {l : List Oper} (n : Nat) (hm : P.follows .mixedOrders = true) (hB : Region.lexTailB .any l.toArray n = true)
    (h : wpQuiet P l.toArray (fun w' => ∃ p : aY W, w' = p.w) (fun a' => ∀ p : aY W, wpList P l.toArray Q (l.drop n) a' p.w) (l.take n) a) : (Code.region id l.toArray true).wp P Q a W := by
  simp only [Region.lexTailB, Bool.and_eq_true, decide_eq_true_eq] at hB
  obtain ⟨⟨⟨⟨hsel, hn⟩, hs⟩, hc⟩, hlex⟩ := hB
  have hn' : n < l.length := by simpa using hn
  have htl : (l.take n).length = n := by simp; omega
  have hdl : (l.drop n).length = l.toArray.size - n := by simp
  have inv0 : HeadInv .any l.toArray n (Array.replicate l.toArray.size false) :=
    ⟨by simp, fun j oj _ hl => (by rw [getD_replicate_false] at hl; cases hl), fun t _ ht => getD_in (by simpa using ht) (getD_replicate_false _ _)⟩
  have H := uv (md := .any) (g := l.toArray.size - n) hsel hs hc hn (l.take n) 0 _ a (fun j hj => by
    have hj' : j < n := by rw [htl] at hj; exact hj
    simp [hj']) (by simpa using htl) inv0 (by rw [htl]; exact hlex) h
  refine wp_region_any hm ?_
  have := ph (Q' := Q) (g := l.toArray.size - n) (fun listed a' w' hw' hL => by
    obtain ⟨p, rfl⟩ := hw'
    have := wpAny_of_seq (md := .any) (Q' := Q) (l.drop n) n listed a' p.w (fun j => by simp [List.getElem?_drop]) (by rw [hdl]; exact hL.1) (hL.2 p)
    rwa [hdl] at this) _ _ _ _ ⟨⟨_, (Below.refl _ W).drew⟩, rfl⟩ H
  rw [htl, show n + (l.toArray.size - n) = l.toArray.size by omega] at this
  exact this
def gB (P : Program) (o : Oper) (a : Act) (w : World) (G : Value → World → Prop) : Prop :=
  match (execOp a.eval o).run P w with
  | .ok (.value v) w' => G v w'
  | .ok .skip w' => G undef w'
  | .ok (.enter f args) w' => Calls P f args w' fun e w'' => ∃ v, e = .returned v ∧ G v w''
  | _ => False
theorem gB.wp {P : Program} {o : Oper} {a : Act} {w : World} {G : Value → World → Prop} {K : Act → World → Prop} {Q : Exit → Act → World → Prop} (h : gB P o a w G) (hk : ∀ v w', G v w' → K (a.put o.dst v) w') : o.wp P a w K Q := by
  unfold gB at h
  unfold Oper.wp
  generalize (execOp a.eval o).run P w = r at h ⊢
  cases r with
  | ok n w' =>
    cases n <;> simp only [Oper.upon] at h ⊢
    case value v => exact hk _ _ h
    case skip => exact hk _ _ h
    case enter f args => exact h.mono fun e w'' ⟨v, he, hg⟩ => by subst he; exact hk _ _ hg
    all_goals exact h.elim
  | halt x w' => exact h.elim
def jq (L : Nat → Bool) (i : Nat) : Nat → Bool := fun j => if j = i then true else L j
def l9 (vs : Nat → Value) (i : Nat) (v : Value) : Nat → Value := fun j => if j = i then v else vs j
def mz (l : List Oper) (t : Nat) : Option Nat := (List.range l.length).find? fun j => ((l[j]?).bind (·.dst)) == some t
def oL (l : List Oper) (a0 : Act) (L : Nat → Bool) (vs : Nat → Value) : Act :=
  { a0 with tmps := a0.tmps.mapIdx fun t x => match mz l t with | some j => if L j then vs j else x | none => x }
def CU (l : List Oper) : Bool := (List.range l.length).all fun j => match (l[j]?).bind (·.dst) with | some t => decide (mz l t = some j) | none => true
theorem tn {l : List Oper} {t j : Nat} (h : mz l t = some j) : (l[j]?).bind (·.dst) = some t := by
  have := List.find?_some h
  simpa using this
theorem zm {l : List Oper} {a0 : Act} {L : Nat → Bool} {vs : Nat → Value} {i : Nat} {o : Oper} {v : Value} (hd : CU l = true) (ho : l[i]? = some o) : (oL l a0 L vs).put o.dst v = oL l a0 (jq L i) (l9 vs i v) := by
  have hi : i < l.length := (List.getElem?_eq_some_iff.1 ho).1
  have h1 := List.all_eq_true.1 hd i (List.mem_range.2 hi)
  rw [ho, Option.bind_some] at h1
  have hpt : ∀ t, (match mz l t with | some j => if jq L i j then l9 vs i v j else ((a0.tmps)[t]?).getD undef | none => ((a0.tmps)[t]?).getD undef) = if o.dst = some t then v else (match mz l t with | some j => if L j then vs j else ((a0.tmps)[t]?).getD undef | none => ((a0.tmps)[t]?).getD undef) := by
    intro t
    cases hs : mz l t with
    | none =>
      have hne : o.dst ≠ some t := fun e => by
        rw [e] at h1
        simp only [decide_eq_true_eq] at h1
        rw [hs] at h1; cases h1
      simp [hne]
    | some j =>
      have hj := tn hs
      by_cases hji : j = i
      · subst hji
        rw [ho, Option.bind_some] at hj
        simp [hj, jq, l9]
      · have : o.dst ≠ some t := fun e => by
          rw [e] at h1
          simp only [decide_eq_true_eq] at h1
          rw [hs] at h1
          exact hji (Option.some.inj h1)
        simp [this, jq, l9, hji]
  cases hdst : o.dst with
  | none =>
    unfold oL Act.put
    simp only [Act.mk.injEq, and_true]
    apply Array.ext_getElem?
    intro t
    simp only [Array.getElem?_mapIdx]
    have := hpt t
    rw [hdst] at this
    cases hx : a0.tmps[t]? with
    | none => rfl
    | some x =>
      rw [hx] at this
      simp only [Option.getD_some, reduceCtorEq, if_false] at this
      simp only [Option.map_some]
      rw [this]
  | some d =>
    unfold oL Act.put
    simp only [Act.mk.injEq, and_true]
    apply Array.ext_getElem?
    intro t
    rw [Array.getElem?_setIfInBounds]
    simp only [Array.getElem?_mapIdx, Array.size_mapIdx]
    have := hpt t
    rw [hdst] at this
    cases hx : a0.tmps[t]? with
    | none =>
      have hlt : ¬ t < a0.tmps.size := by simpa using hx
      by_cases e : d = t
      · subst e; simp [hlt]
      · simp [e]
    | some x =>
      have hlt : t < a0.tmps.size := (Array.getElem?_eq_some_iff.1 hx).1
      rw [hx] at this
      simp only [Option.getD_some, Option.some.injEq] at this
      simp only [Option.map_some]
      rw [this]
      by_cases e : d = t
      · subst e; simp [hlt]
      · simp [e]
def DU (l : List Oper) : Bool := (List.range l.length).all fun j => match l[j]? with | some o => o.guard.isNone && o.after.all (fun e => !Region.binds .any e || decide (e.on < j)) | none => true
theorem qi {P : Program} {id : Nat} {Q : Exit → Act → World → Prop} {a0 : Act} {W : World} {l : List Oper} (hm : P.follows .mixedOrders = true) (hd : CU l = true) (he : DU l = true)
    (fr : (Nat → Bool) → (Nat → Value) → Act) (hfr : ∀ L vs, oL l a0 L vs = fr L vs) (J : (Nat → Bool) → (Nat → Value) → World → Prop) (h0 : ∀ vs, J (fun _ => false) vs { W with drawn := W.drawn + 1 })
    (hstep : ∀ (i : Nat) (o : Oper), l[i]? = some o → ∀ (L : Nat → Bool) (vs : Nat → Value) (w : World), L i = false → (∀ e ∈ o.after, Region.binds .any e = true → L e.on = true) → J L vs w → gB P o (fr L vs) w (fun v w' => J (jq L i) (l9 vs i v) w'))
    (hfin : ∀ (L : Nat → Bool) (vs : Nat → Value) (w : World), (∀ j, j < l.length → L j = true) → J L vs w → Q .normal (fr (fun _ => true) vs) w) : (Code.region id l.toArray true).wp P Q a0 W := by
  refine wp_region_any hm ?_
  have hguard : ∀ (i : Nat) (o : Oper), l[i]? = some o → o.guard = none ∧ ∀ e ∈ o.after, Region.binds .any e = true → e.on < i := fun i o ho => by
    have hi : i < l.length := (List.getElem?_eq_some_iff.1 ho).1
    have h1 := List.all_eq_true.1 he i (List.mem_range.2 hi)
    rw [ho] at h1
    simp only [Bool.and_eq_true, Option.isNone_iff_eq_none] at h1
    refine ⟨h1.1, fun e hm hb => ?_⟩
    have := Array.all_eq_true'.1 h1.2 e hm
    rw [hb] at this
    simpa using this
  have hfr0 : oL l a0 (fun _ => false) (fun _ => undef) = a0 := by
    unfold oL
    cases a0 with
    | mk tmps defers =>
      simp only [Act.mk.injEq, and_true]
      apply Array.ext_getElem?
      intro t
      simp only [Array.getElem?_mapIdx]
      cases tmps[t]? with
      | none => rfl
      | some x => simp only [Option.map_some]; split <;> simp
  have main : ∀ (f : Nat) (listed : Array Bool) (vs : Nat → Value) (w : World), listed.size = l.length → ((List.range l.length).countP fun j => !listed.getD j false) = f → J (fun j => listed.getD j false) vs w → wpAny P .any l.toArray Q f listed (oL l a0 (fun j => listed.getD j false) vs) w := by
    intro f
    induction f with
    | zero =>
      intro listed vs w hsz hcnt hJ
      have hall : ∀ j, j < l.length → listed.getD j false = true := fun j hj => by
        have := List.countP_eq_zero.1 hcnt j (List.mem_range.2 hj)
        simpa using this
      refine ⟨?_, ?_⟩
      · rw [List.eq_nil_iff_forall_not_mem]
        intro i hi
        obtain ⟨h1, o, ho, _⟩ := mem_ready.1 hi
        have hil : i < l.length := by
          have := (Array.getElem?_eq_some_iff.1 ho).1
          simpa using this
        have h2 := hall i hil
        rw [getD_both h1] at h2
        cases h2
      · have := hfin _ _ _ hall hJ
        have e : oL l a0 (fun j => listed.getD j false) vs = oL l a0 (fun _ => true) vs := by
          unfold oL
          congr 1
          congr 1
          funext t x
          cases hs : mz l t with
          | none => rfl
          | some j =>
            have hj : j < l.length := by
              have := List.mem_of_find?_eq_some hs
              simpa using this
            simp [hall j hj]
        rw [e, hfr]; exact this
    | succ f ih =>
      intro listed vs w hsz hcnt hJ
      have hex : ∃ i, i < l.length ∧ listed.getD i false = false ∧ ∀ j, j < i → listed.getD j false = true := by
        have : ∃ i, i < l.length ∧ listed.getD i false = false := by
          have h1 : 0 < (List.range l.length).countP fun j => !listed.getD j false := by omega
          obtain ⟨i, hi, hp⟩ := List.countP_pos_iff.1 h1
          exact ⟨i, List.mem_range.1 hi, by simpa using hp⟩
        obtain ⟨i, hi, hp⟩ := this
        induction i using Nat.strongRecOn with
        | _ i ihi =>
          by_cases hj : ∃ j, j < i ∧ listed.getD j false = false
          · obtain ⟨j, hj, hp2⟩ := hj
            exact ihi j hj (by omega) hp2
          · exact ⟨i, hi, hp, fun j hji => by
              cases h : listed.getD j false with
              | true => rfl
              | false => exact absurd ⟨j, hji, h⟩ hj⟩
      obtain ⟨i0, hi0, hp0, hlow⟩ := hex
      have hrdy : i0 ∈ Region.ready .any l.toArray listed := by
        refine mem_ready.2 ⟨getD_in (by omega) hp0, l[i0], by simp [hi0], fun e hm hb => hlow _ ((hguard i0 _ (by simp [hi0])).2 e hm hb)⟩
      refine ⟨fun h => (by rw [h] at hrdy; cases hrdy), fun i hi => ?_⟩
      obtain ⟨h1, o, ho, hdep⟩ := mem_ready.1 hi
      have ho' : l[i]? = some o := by simpa using ho
      have hil : i < l.length := (List.getElem?_eq_some_iff.1 ho').1
      have hup : (fun j => (listed.setIfInBounds i true).getD j false) = jq (fun j => listed.getD j false) i := by
        funext j
        unfold jq
        by_cases hji : j = i
        · subst hji; simp [hsz, hil]
        · rw [getD_set_ne false (Ne.symm hji), if_neg hji]
      unfold wpOp
      simp only [ho]
      rw [show Region.wanted o (yielded l.toArray (oL l a0 (fun j => listed.getD j false) vs).tmps) = true by simp [Region.wanted, (hguard i o ho').1], if_pos rfl]
      refine .inl (gB.wp (by rw [hfr]; exact hstep i o ho' _ vs w (getD_both h1) hdep hJ) fun v w' hJ' => ?_)
      rw [zm hd ho', ← hup]
      refine ih _ _ _ (by simp [hsz]) ?_ (by rw [hup]; exact hJ')
      have hcount : ∀ (m : List Nat), m.Nodup → i ∈ m → (m.countP fun j => !(listed.setIfInBounds i true).getD j false) + 1 = m.countP fun j => !listed.getD j false := by
        intro m
        induction m with
        | nil => intro _ h; cases h
        | cons b t iht =>
          intro hn hm
          obtain ⟨hb, hn⟩ := List.nodup_cons.1 hn
          have ex : ∀ j, j ≠ i → (listed.setIfInBounds i true).getD j false = listed.getD j false := fun j hj => getD_set_ne false (Ne.symm hj)
          rcases List.mem_cons.1 hm with rfl | hm
          · rw [List.countP_cons, List.countP_cons]
            have e2 : (t.countP fun j => !(listed.setIfInBounds i true).getD j false) = t.countP fun j => !listed.getD j false := by
              apply List.countP_congr
              intro j hj
              rw [ex j (fun e => hb (e ▸ hj))]
            have e3 : (listed.setIfInBounds i true).getD i false = true := by simp [hsz, hil]
            have e4 : listed.getD i false = false := getD_both h1
            rw [e2, e3, e4]; simp
          · have := iht hn hm
            rw [List.countP_cons, List.countP_cons, ex b (fun e => hb (e ▸ hm))]
            omega
      have := hcount _ List.nodup_range (List.mem_range.2 hil)
      omega
  have := main l.length (Array.replicate l.length false) (fun _ => undef) { W with drawn := W.drawn + 1 } (by simp) (by
    rw [List.countP_eq_length.2 (fun j hj => by rw [getD_replicate_false]; rfl), List.length_range]) (by
    have e : (fun j => (Array.replicate l.length false).getD j false) = fun _ => false := by funext j; exact getD_replicate_false _ _
    rw [e]; exact h0 _)
  have e : (fun j => (Array.replicate l.length false).getD j false) = fun _ => false := by funext j; exact getD_replicate_false _ _
  rw [e, hfr0] at this
  simpa using this
structure ej (w : World) : Prop where
  lt64 : 0 < w.heap.size
  tab64 : ∀ j, j < Lib.deBruijn64tab.length → w.cell? ⟨0, j, none⟩ = some (.int .u8 (Lib.deBruijn64tab.getD j 0))
theorem ej.below {w w' : World} (h : ej w) (hb : Below w.heap.size w w') : ej w' :=
  ⟨Nat.lt_of_lt_of_le h.lt64 hb.size, fun j hj => (hb.cell (p := ⟨0, j, none⟩) h.lt64).trans (h.tab64 j hj)⟩
theorem iY : (Tryz.prog.info? 3).map (fun i => (i.zero, i.size, i.bytes)) = some (some (.int .i64 0), 1, 8) := by kernel_rfl
theorem rC : (Tryz.prog.info? 152).map (fun i => (i.zero, i.size, i.bytes)) = some (some (.agg #[(.int .i64 0), (.int .i64 0), (.int .i64 0), (.int .u64 0)]), 4, 32) := by kernel_rfl
theorem AY : (Tryz.prog.info? 170).map (fun i => (i.zero, i.size, i.bytes)) = some (some (.agg #[(.int .i64 0), (.int .i64 0), (.int .i64 0), (.int .i64 0)]), 4, 32) := by kernel_rfl
structure dm where
  f0 : Int
  f1 : Int
  f2 : Int
  f3 : Int
def z152 : dm := ⟨(0 : Int), (0 : Int), (0 : Int), (0 : Int)⟩
def gf : Kd dm := Kd.iso (Kd.pair (Kd.int .i64) (Kd.pair (Kd.int .i64) (Kd.pair (Kd.int .i64) (Kd.int .u64)))) (fun x : dm => (x.f0, x.f1, x.f2, x.f3))
theorem ye {w : World} {x : dm} {cs : List Value} (h : gf.K w x cs) : cs = [.int .i64 x.f0, .int .i64 x.f1, .int .i64 x.f2, .int .u64 x.f3] := by
  obtain ⟨_, _, rfl, rfl, ⟨_, _, rfl, rfl, ⟨_, _, rfl, rfl, rfl⟩⟩⟩ := h
  exact rfl
theorem tK (w : World) (base : Nat) (ok : Nat → Prop) (x : dm)  : gf.M w base ok x [.int .i64 x.f0, .int .i64 x.f1, .int .i64 x.f2, .int .u64 x.f3] := ⟨[.int .i64 x.f0], [.int .i64 x.f1, .int .i64 x.f2, .int .u64 x.f3], rfl, rfl, ⟨[.int .i64 x.f1], [.int .i64 x.f2, .int .u64 x.f3], rfl, rfl, ⟨[.int .i64 x.f2], [.int .u64 x.f3], rfl, rfl, rfl⟩⟩⟩
def de (xs : List dm) (i : Int) : dm := xs.getD i.toNat z152
theorem pd {w : World} {A : Option Addr} {n : Nat} {xs : List dm} (h : Kd.C gf w A n xs) (i : Int) (h0 : 0 ≤ i) (h1 : i < n) : ∃ ad , A = some ad ∧ w.cell? (ad.add (i.toNat * 4)) = some (.int .i64 (de xs i).f0) ∧ w.cell? ⟨(ad.add (i.toNat * 4)).block, (ad.add (i.toNat * 4)).off + 1, none⟩ = some (.int .i64 (de xs i).f1) ∧ w.cell? ⟨(ad.add (i.toNat * 4)).block, (ad.add (i.toNat * 4)).off + 2, none⟩ = some (.int .i64 (de xs i).f2) ∧ w.cell? ⟨(ad.add (i.toNat * 4)).block, (ad.add (i.toNat * 4)).off + 3, none⟩ = some (.int .u64 (de xs i).f3) := by
  obtain ⟨ad, c, e, _, hK, hc0⟩ := Kd.Af h z152 i h0 h1
  have hc : ∀ j u, c[j]? = some u → w.cell? (ad.add (i.toNat * 4 + j)) = some u := hc0
  obtain rfl := ye hK
  exact ⟨ad, e, hc 0 _ rfl, by rw [← fy _ _ 1 (by omega)]; exact hc 1 _ rfl, by rw [← fy _ _ 2 (by omega)]; exact hc 2 _ rfl, by rw [← fy _ _ 3 (by omega)]; exact hc 3 _ rfl⟩
structure S28 where
  f0 : Int
  f1 : Int
  f2 : (List Int)
  f3 : (List Int)
def z28 : S28 := ⟨(0 : Int), (0 : Int), ([] : List Int), ([] : List Int)⟩
def k28 : Kd S28 := Kd.iso (Kd.pair (Kd.int .i64) (Kd.pair (Kd.int .i64) (Kd.pair (Kd.slice 3 (Kd.int .i64)) (Kd.slice 3 (Kd.int .i64))))) (fun x : S28 => (x.f0, x.f1, x.f2, x.f3))
theorem tJ {w : World} {x : S28} {cs : List Value} (h : k28.K w x cs) : ∃ A2 c2 A3 c3, cs = [.int .i64 x.f0, .int .i64 x.f1, .slice A2 x.f2.length c2, .slice A3 x.f3.length c3] ∧ x.f2.length ≤ c2 ∧ (Kd.int .i64).C w A2 x.f2.length x.f2 ∧ x.f3.length ≤ c3 ∧ (Kd.int .i64).C w A3 x.f3.length x.f3 := by
  obtain ⟨_, _, rfl, rfl, ⟨_, _, rfl, rfl, ⟨_, _, rfl, ⟨A2, c2, rfl, l2, g2⟩, ⟨A3, c3, rfl, l3, g3⟩⟩⟩⟩ := h
  exact ⟨A2, c2, A3, c3, rfl, l2, g2, l3, g3⟩
theorem yc {w : World} {base : Nat} {ok : Nat → Prop} {x : S28} {cs : List Value} (h : k28.M w base ok x cs) : ∃ v2 v3, cs = [.int .i64 x.f0, .int .i64 x.f1, v2, v3] ∧ (Kd.int .i64).R 3 w base ok v2 x.f2 ∧ (Kd.int .i64).R 3 w base ok v3 x.f3 := by
  obtain ⟨_, _, rfl, rfl, ⟨_, _, rfl, rfl, ⟨_, _, rfl, ⟨v2, rfl, g2⟩, ⟨v3, rfl, g3⟩⟩⟩⟩ := h
  exact ⟨v2, v3, rfl, g2, g3⟩
theorem AV (w : World) (base : Nat) (ok : Nat → Prop) (x : S28) {v2 : Value} (g2 : (Kd.int .i64).R 3 w base ok v2 x.f2) {v3 : Value} (g3 : (Kd.int .i64).R 3 w base ok v3 x.f3) : k28.M w base ok x [.int .i64 x.f0, .int .i64 x.f1, v2, v3] := ⟨[.int .i64 x.f0], [.int .i64 x.f1, v2, v3], rfl, rfl, ⟨[.int .i64 x.f1], [v2, v3], rfl, rfl, ⟨[v2], [v3], rfl, ⟨v2, rfl, g2⟩, ⟨v3, rfl, g3⟩⟩⟩⟩
def bJ (xs : List S28) (i : Int) : S28 := xs.getD i.toNat z28
theorem D1 {w : World} {A : Option Addr} {n : Nat} {xs : List S28} (h : Kd.C k28 w A n xs) (i : Int) (h0 : 0 ≤ i) (h1 : i < n) : ∃ ad A2 c2 A3 c3, A = some ad ∧ w.cell? (ad.add (i.toNat * 4)) = some (.int .i64 (bJ xs i).f0) ∧ w.cell? ⟨(ad.add (i.toNat * 4)).block, (ad.add (i.toNat * 4)).off + 1, none⟩ = some (.int .i64 (bJ xs i).f1) ∧ w.cell? ⟨(ad.add (i.toNat * 4)).block, (ad.add (i.toNat * 4)).off + 2, none⟩ = some (.slice A2 (bJ xs i).f2.length c2) ∧ w.cell? ⟨(ad.add (i.toNat * 4)).block, (ad.add (i.toNat * 4)).off + 3, none⟩ = some (.slice A3 (bJ xs i).f3.length c3) ∧ (bJ xs i).f2.length ≤ c2 ∧ (Kd.int .i64).C w A2 (bJ xs i).f2.length (bJ xs i).f2 ∧ (bJ xs i).f3.length ≤ c3 ∧ (Kd.int .i64).C w A3 (bJ xs i).f3.length (bJ xs i).f3 := by
  obtain ⟨ad, c, e, _, hK, hc0⟩ := Kd.Af h z28 i h0 h1
  have hc : ∀ j u, c[j]? = some u → w.cell? (ad.add (i.toNat * 4 + j)) = some u := hc0
  obtain ⟨A2, c2, A3, c3, rfl, l2, g2, l3, g3⟩ := tJ hK
  exact ⟨ad, A2, c2, A3, c3, e, hc 0 _ rfl, by rw [← fy _ _ 1 (by omega)]; exact hc 1 _ rfl, by rw [← fy _ _ 2 (by omega)]; exact hc 2 _ rfl, by rw [← fy _ _ 3 (by omega)]; exact hc 3 _ rfl, l2, g2, l3, g3⟩
structure fz where
  f0 : Int
  f1 : Int
  f2 : Int
  f3 : Int
def Em : fz := ⟨(0 : Int), (0 : Int), (0 : Int), (0 : Int)⟩
def oK : Kd fz := Kd.iso (Kd.pair (Kd.int .i64) (Kd.pair (Kd.int .i64) (Kd.pair (Kd.int .i64) (Kd.int .i64)))) (fun x : fz => (x.f0, x.f1, x.f2, x.f3))
theorem yd {w : World} {x : fz} {cs : List Value} (h : oK.K w x cs) : cs = [.int .i64 x.f0, .int .i64 x.f1, .int .i64 x.f2, .int .i64 x.f3] := by
  obtain ⟨_, _, rfl, rfl, ⟨_, _, rfl, rfl, ⟨_, _, rfl, rfl, rfl⟩⟩⟩ := h
  exact rfl
theorem yZ (w : World) (base : Nat) (ok : Nat → Prop) (x : fz)  : oK.M w base ok x [.int .i64 x.f0, .int .i64 x.f1, .int .i64 x.f2, .int .i64 x.f3] := ⟨[.int .i64 x.f0], [.int .i64 x.f1, .int .i64 x.f2, .int .i64 x.f3], rfl, rfl, ⟨[.int .i64 x.f1], [.int .i64 x.f2, .int .i64 x.f3], rfl, rfl, ⟨[.int .i64 x.f2], [.int .i64 x.f3], rfl, rfl, rfl⟩⟩⟩
def dc (xs : List fz) (i : Int) : fz := xs.getD i.toNat Em
theorem pc {w : World} {A : Option Addr} {n : Nat} {xs : List fz} (h : Kd.C oK w A n xs) (i : Int) (h0 : 0 ≤ i) (h1 : i < n) : ∃ ad , A = some ad ∧ w.cell? (ad.add (i.toNat * 4)) = some (.int .i64 (dc xs i).f0) ∧ w.cell? ⟨(ad.add (i.toNat * 4)).block, (ad.add (i.toNat * 4)).off + 1, none⟩ = some (.int .i64 (dc xs i).f1) ∧ w.cell? ⟨(ad.add (i.toNat * 4)).block, (ad.add (i.toNat * 4)).off + 2, none⟩ = some (.int .i64 (dc xs i).f2) ∧ w.cell? ⟨(ad.add (i.toNat * 4)).block, (ad.add (i.toNat * 4)).off + 3, none⟩ = some (.int .i64 (dc xs i).f3) := by
  obtain ⟨ad, c, e, _, hK, hc0⟩ := Kd.Af h Em i h0 h1
  have hc : ∀ j u, c[j]? = some u → w.cell? (ad.add (i.toNat * 4 + j)) = some u := hc0
  obtain rfl := yd hK
  exact ⟨ad, e, hc 0 _ rfl, by rw [← fy _ _ 1 (by omega)]; exact hc 1 _ rfl, by rw [← fy _ _ 2 (by omega)]; exact hc 2 _ rfl, by rw [← fy _ _ 3 (by omega)]; exact hc 3 _ rfl⟩
end Go.Proofs.YtmjlmloomkodpaaGreatDoor.PA
namespace Go.Proofs.YtmjlmloomkodpaaGreatDoor.PA
open Go.RowKit Go.Proofs.ae.aw Go.Proofs.ae.aJ Go.Proofs.ae.aN
attribute [local go_sem] bo bm bC bB a6 aZ bn bj
set_option linter.unusedVariables false
set_option linter.unusedSimpArgs false
def cq.f (a0 : Int) : Option (Int) := if (Int.tmod a0 6) = 5 then (some 0) else (if (Int.tmod a0 3) = 0 then (some 1) else (some a0))
set_option maxHeartbeats 8000000 in
set_option maxRecDepth 100000 in
theorem cq.calls (a0 : Int) (r : Int) (w : World) (h : cq.f a0 = some r) :
  Calls Tryz.prog 104 #[.int .i64 a0] w fun e w' => e = .returned (.int .i64 r) ∧ aK w w' := by
 have H : (if (Int.tmod a0 6) = 5 then (some 0) else (if (Int.tmod a0 3) = 0 then (some 1) else (some a0))) = some r := h
 clear h
 by_cases c2 : (Int.tmod a0 6) = 5
 ·rw [if_pos c2] at H
  have c2b0 : ((Int.tmod a0 6) == 5) = true := beq_iff_eq.mpr c2
  have c2b1 : ((Int.tmod a0 6) != 5) = false := bne_eq_false_iff_eq.mpr c2
  clear c2
  obtain rfl := Option.some.inj H
  go_enter Tryz.func104, Tryz.ntmps104
  go_wp2
  go_ret
  exact ⟨by first | rfl | (simp; done) | (simp [*]; done), by repeat (first | exact aK.refl _ | apply aK.step)⟩
 ·rw [if_neg c2] at H
  have c2b0 : ((Int.tmod a0 6) == 5) = false := beq_eq_false_iff_ne.mpr c2
  have c2b1 : ((Int.tmod a0 6) != 5) = true := bne_iff_ne.mpr c2
  by_cases c3 : (Int.tmod a0 3) = 0
  ·rw [if_pos c3] at H
   have c3b0 : ((Int.tmod a0 3) == 0) = true := beq_iff_eq.mpr c3
   have c3b1 : ((Int.tmod a0 3) != 0) = false := bne_eq_false_iff_eq.mpr c3
   clear c3
   obtain rfl := Option.some.inj H
   go_enter Tryz.func104, Tryz.ntmps104
   go_wp2
   go_ret
   exact ⟨by first | rfl | (simp; done) | (simp [*]; done), by repeat (first | exact aK.refl _ | apply aK.step)⟩
  ·rw [if_neg c3] at H
   have c3b0 : ((Int.tmod a0 3) == 0) = false := beq_eq_false_iff_ne.mpr c3
   have c3b1 : ((Int.tmod a0 3) != 0) = true := bne_iff_ne.mpr c3
   obtain rfl := Option.some.inj H
   go_enter Tryz.func104, Tryz.ntmps104
   go_wp2
   go_ret
   exact ⟨by first | rfl | (simp; done) | (simp [*]; done), by repeat (first | exact aK.refl _ | apply aK.step)⟩
end Go.Proofs.YtmjlmloomkodpaaGreatDoor.PA
namespace Go.Proofs.YtmjlmloomkodpaaGreatDoor.PA
open Go.RowKit Go.Proofs.ae.aw Go.Proofs.ae.aJ Go.Proofs.ae.aN
attribute [local go_sem] bo bm bC bB a6 aZ bn bj
set_option linter.unusedVariables false
set_option linter.unusedSimpArgs false
mutual
def bD.j0 : Nat → List Int → Bool → Option (List Int)
 | 0, _, _ => none
 | k + 1, x0, x13 => if x13 = true then (some ([] : List Int)) else ((cq.f (x0.length : Int)).bind fun t418 => (if 0 ≤ (wrap64 ((x0.length : Int) + t418)) then (if (wrap64 ((x0.length : Int) + t418) : Int).toNat ≤ 35184372088832 then (bD.l0 k x0 (List.replicate (wrap64 ((x0.length : Int) + t418) : Int).toNat 0) 0) else (none)) else (none)))
def bD.l0 : Nat → List Int → List Int → Int → Option (List Int)
 | 0, _, _, _ => none
 | k + 1, x0, x5, x6 => if x6 < (x0.length : Int) then (if 0 ≤ x6 then (if x6 < (x5.length : Int) then (bD.l0 k x0 (x5.set (x6 : Int).toNat (rd x0 x6)) (wrap64 (x6 + 1))) else (none)) else (none)) else (bD.l1 k x0 x5 (x0.length : Int))
def bD.l1 : Nat → List Int → List Int → Int → Option (List Int)
 | 0, _, _, _ => none
 | k + 1, x0, x5, x7 => if x7 < (x5.length : Int) then (if 0 ≤ x7 then (bD.l1 k x0 (x5.set (x7 : Int).toNat (-7000000000000000101)) (wrap64 (x7 + 1))) else (none)) else (if 0 ≤ (x0.length : Int) then (if (x0.length : Int) ≤ (x5.length : Int) then (some x5) else (none)) else (none))
end
def bD.f (k : Nat) (l0 : List Int) : Option (List Int) := bD.j0 k l0 false
set_option maxHeartbeats 8000000 in
set_option maxRecDepth 100000 in
theorem bD.calls (k : Nat) (A0 : Option Addr) (c0 : Nat) (l0 : List Int) (r : List Int) (w : World) (hr0 : Kd.C (Kd.int .i64) w A0 l0.length l0) (hc0 : l0.length ≤ c0) (h : bD.f k l0 = some r) :
  Calls Tryz.prog 66 #[.slice A0 l0.length c0, .bool false] w fun e w' => ∃ (A_ : Option Addr) (c_ : Nat), e = .returned (.slice A_ l0.length c_) ∧ Kd.R (Kd.int .i64) 3 w' w.heap.size (fun _ => True) (.slice A_ r.length c_) r ∧ Below w.heap.size w w' := by
 have HR0 := aa.mk hr0
 have HC0 := aa.mk hc0
 clear hr0 hc0
 have HB := aa.mk (Below.refl w.heap.size w)
 have H : bD.j0 k l0 false = some r := h
 clear h
 have HC3 := aa.mk H
 clear H
 go_enter Tryz.func66, Tryz.ntmps66
 go_upto_region 1 with (fail)
 go_cut [13] (fun v13 wc => ∃ (kq : Nat), v13 = .bool false ∧ aa (bD.j0 kq l0 false = some r) ∧ aa (kq ≤ k) ∧ aa (Below w.heap.size w wc))
 case first =>
  have H := HC3.out
  clear HC3
  have H' := aa.mk H
  clear H
  go_wp2
  go_meet
  case rel => exact ⟨_, rfl, H', ⟨by first | omega | exact Nat.le_refl _⟩, ⟨by repeat (first | (with_reducible first | exact HB.out | apply ag | apply af | apply ah) | exact HB.out)⟩⟩
 case rest =>
  clear HC3
  try clear p2
  try clear c4
  obtain ⟨kq, rfl, HA, HJ2, HB⟩ := hcut
  cases kq with
  | zero => exact absurd HA.out (by simp [bD.j0])
  | succ kj2 =>
   have H := HA.out
   clear HA
   simp only [bD.j0] at H
   skip
   ·skip
    have H1 : ((cq.f (l0.length : Int)).bind fun t418 => (if 0 ≤ (wrap64 ((l0.length : Int) + t418)) then (if (wrap64 ((l0.length : Int) + t418) : Int).toNat ≤ 35184372088832 then (bD.l0 kj2 l0 (List.replicate (wrap64 ((l0.length : Int) + t418) : Int).toNat 0) 0) else (none)) else (none))) = some r := by rw [if_neg (show ¬ (false = true) by decide)] at H; exact H
    clear H
    have H := H1
    clear H1
    replace H := Option.bind_eq_some_iff.mp H
    obtain ⟨t418, A60, H⟩ := H
    replace H : (if 0 ≤ (wrap64 ((l0.length : Int) + t418)) then (if (wrap64 ((l0.length : Int) + t418) : Int).toNat ≤ 35184372088832 then (bD.l0 kj2 l0 (List.replicate (wrap64 ((l0.length : Int) + t418) : Int).toNat 0) 0) else (none)) else (none)) = some r := H
    have A6 := aa.mk A60
    clear A60
    obtain ⟨ji7, hji7⟩ : ∃ j_ : Int, (wrap64 ((l0.length : Int) + t418)) = j_ := ⟨_, rfl⟩
    replace H : (if 0 ≤ (ji7) then (if (ji7 : Int).toNat ≤ 35184372088832 then (bD.l0 kj2 l0 (List.replicate (ji7 : Int).toNat 0) 0) else (none)) else (none)) = some r := by first | (rw [hji7] at H; exact H) | (simp only [hji7] at H ⊢; exact H)
    (try rw [hji7] at A6)
    have hji7w : (IntKind.i64.wrap ((l0.length : Int) + t418)) = ji7 := (a8 _).trans hji7
    by_cases c8 : 0 ≤ (ji7)
    ·rw [if_pos c8] at H
     have c8b0 := eq_true c8
     have c8b1 : decide (0 ≤ (ji7)) = true := decide_eq_true c8
     clear c8
     by_cases c9 : (ji7 : Int).toNat ≤ 35184372088832
     ·rw [if_pos c9] at H
      have c9b0 := eq_true c9
      have c9b1 : decide ((ji7 : Int).toNat ≤ 35184372088832) = true := decide_eq_true c9
      clear c9
      obtain ⟨y419, hy419⟩ : ∃ y_ : List Int, y_ = (List.replicate (ji7 : Int).toNat 0) := ⟨_, rfl⟩
      replace H : (bD.l0 kj2 l0 y419 0) = some r := by first | (rw [hy419]; with_reducible exact H) | (have H2_ := (Option.bind_some _ _).symm.trans H; rw [hy419]; with_reducible exact H2_) | (have H2_ := (Option.bind_some _ _).symm.trans H; with_reducible exact H2_) | with_reducible exact H | (rw [hy419]; exact H) | exact H
      have Ny419 := aa.mk hy419
      clear hy419
      have H' := aa.mk H
      clear H
      go_wp2_with (first | ((with_reducible refine az (f := 104) rfl ?_); refine bI (some 18) rfl rfl Tryz.func104 (by kernel_rfl) rfl #[.int .i64 (l0.length : Int)] rfl (by (try simp only [List.map_toArray, List.map_cons, List.map_nil]); first | done | rfl | (simp only [List.length_drop, List.length_take]; rfl)) ?_; (with_reducible refine (cq.calls (l0.length : Int) t418 _ A6.out).mono ?_); rintro e w' ⟨rfl, ⟨nd, rfl⟩⟩; refine ⟨_, rfl, ?_⟩) | ((with_reducible refine aV (N := 20) rfl ?_); (try (refine kK (by rfl) ?_; dsimp only)); refine Kd.zJ (Kd.int .i64) _ 3 rfl (N := 20) rfl 22 _ _ rfl ji7 rfl rfl Tryz.underlying22 (.int .i64 0) 8 iY rfl (by decide) (by omega) 0 (ok := fun _ => True) (okp := fun _ => True) rfl (fun _ hk => hk) trivial (of_decide_eq_true (by first | (with_reducible assumption) | assumption)) (Nat.le_trans (Nat.mul_le_mul_right _ (of_decide_eq_true (by first | (with_reducible assumption) | assumption) : ji7.toNat ≤ 35184372088832)) (by omega)) (Below.refl _ _) (Nat.le_refl _) ?_; intro v420 w10 pJ hb hg_ hnew_; clear hg_ hnew_; (first | rw [← Ny419.out] at pJ | (simp only [Int.reduceToNat] at pJ; rw [← Ny419.out] at pJ)); have n0_ := aa.mk (Kd.cW pJ (aq (by repeat (first | (with_reducible first | exact HB.out | apply ag | apply af | apply ah) | exact HB.out)))); have n1_ := aa.mk (ar (by repeat (first | (with_reducible first | exact HB.out | apply ag | apply af | apply ah) | exact HB.out)) hb); clear HB; have zO := n0_; have HB := n1_; clear n0_ n1_; clear hb pJ))
      go_loopg [6] kj2 (fun kq v6 w' => ∃ (x5_2 : List Int) (x6_2 : Int), v6 = .int .i64 x6_2 ∧ aa (bD.l0 kq l0 x5_2 x6_2 = some r) ∧ aa (kq ≤ kj2) ∧ aa (Kd.R (Kd.int .i64) 3 w' w.heap.size (fun _ => True) v420 x5_2) ∧ aa (Below w.heap.size w w'))
      case atStart => exact ⟨(y419), (0), (by first | rfl | (simp; done) | (simp [*]; done)), H', ⟨Nat.le_refl _⟩, ⟨by (with_reducible repeat (first | apply Kd.aH | apply Kd.aG | apply Kd.aQ)); exact zO.out⟩, ⟨by repeat (first | (with_reducible first | exact HB.out | apply ag | apply af | apply ah) | exact HB.out)⟩⟩
      case round =>
       clear H'
       try clear c1
       try clear p2
       try clear c4
       try clear c5
       try clear c6
       try clear p6
       try clear c8
       try clear c8b0
       try clear c8b1
       try clear c9
       try clear c9b0
       try clear c9b1
       try clear c10
       try clear p2
       obtain ⟨x5_2, x6_2, rfl, HA, HK2, er, HB⟩ := hrel
       cases gk with
       | zero => exact absurd HA.out (by simp [bD.l0])
       | succ k2 =>
        have H := HA.out
        clear HA
        simp only [bD.l0] at H
        by_cases c12 : x6_2 < (l0.length : Int)
        ·rw [if_pos c12] at H
         have c12b0 : decide (x6_2 < (l0.length : Int)) = true := decide_eq_true c12
         clear c12
         by_cases c13 : 0 ≤ x6_2
         ·rw [if_pos c13] at H
          have c13b0 : decide (0 ≤ x6_2) = true := decide_eq_true c13
          clear c13
          by_cases c14 : x6_2 < (x5_2.length : Int)
          ·rw [if_pos c14] at H
           have c14b0 : decide (x6_2 < (x5_2.length : Int)) = true := decide_eq_true c14
           clear c14
           obtain ⟨y423, hy423⟩ : ∃ y_ : List Int, y_ = (x5_2.set (x6_2 : Int).toNat (rd l0 x6_2)) := ⟨_, rfl⟩
           replace H : (bD.l0 k2 l0 y423 (wrap64 (x6_2 + 1))) = some r := by first | (rw [hy423]; with_reducible exact H) | (have H2_ := (Option.bind_some _ _).symm.trans H; rw [hy423]; with_reducible exact H2_) | (have H2_ := (Option.bind_some _ _).symm.trans H; with_reducible exact H2_) | with_reducible exact H | (rw [hy423]; exact H) | exact H
           have Ny423 := aa.mk hy423
           clear hy423
           have H' := aa.mk H
           clear H
           have p422 : 0 ≤ (x6_2 : Int) := of_decide_eq_true (by first | (with_reducible assumption) | assumption)
           have q422 : x6_2 < (l0.length : Int) := of_decide_eq_true (by first | (with_reducible assumption) | assumption)
           obtain ⟨ad422, e422, jm⟩ := Kd.dv HR0.out x6_2 p422 q422
           cases e422
           replace jm := (HB.out.cell (World.block_lt_of_cell? w _ jm)).trans jm
           replace p422 := eq_true p422
           replace q422 := eq_true q422
           have p15 : 0 ≤ (x6_2 : Int) := of_decide_eq_true (by first | (with_reducible assumption) | assumption)
           have q15 : (x6_2 : Int) < ((x5_2.length : Int) : Int) := of_decide_eq_true (by first | (with_reducible assumption) | assumption)
           obtain ⟨go15, pR, sL, zi, gl15, cl15, zR⟩ := Kd.nP er.out (by omega)
           (first | cases sL | (injection sL with ea_ en_ ec_; (first | subst ea_ | (injection ea_ with ea_; subst ea_)); subst ec_; clear en_))
           have GB15 := aa.mk zi
           have GG15 := aa.mk zR
           clear zi gl15 zR
           obtain ⟨uM, hf15_0⟩ := Kd.np 0 er.out (x6_2 : Int) p15 q15
           replace p15 := eq_true p15
           replace q15 := eq_true q15
           have vm := Kd.p7 er.out (x6_2 : Int) (rd l0 x6_2)
           go_wp2_with (first | ((with_reducible refine jD (t := 3) (p := 33) rfl ?_); refine iX (t := 3) (p := 33) (v := ?vo_w17) (w1 := (wr.setCell ⟨go15, (x6_2 : Int).toNat, none⟩ (.int .i64 (rd l0 x6_2)))) ?hg ?ho ?hn ?hr ?_; (case ho => rfl); (case hg => rfl); (case hn => rfl); (case hr => first | (go_simp; done) | (go_simp; rfl)); intro w17 hw; have hg : wr.grownBy w17 (some go15) := (by rw [hw]; exact vm.2); have hp_ : Kd.R (Kd.int .i64) 3 w17 w.heap.size (fun _ => True) (.slice (some ⟨go15, 0, none⟩) x5_2.length pR) y423 := (by rw [hw, Ny423.out]; exact vm.1); clear vm; have n0_ := aa.mk (hp_); have n1_ := aa.mk ((by rw [hw]; exact ak (HB.out) GB15.out : Below w.heap.size w w17)); clear er; clear HB; have er := n0_; have HB := n1_; clear n0_ n1_; clear hg hw hp_))
           go_roundg k2
           case measure => have := HJ2.out; have := HK2.out; omega
           case rel => exact ⟨(y423), (wrap64 (x6_2 + 1)), (by first | rfl | (simp; done) | (simp [*]; done)), H', ⟨by have := HJ2.out; have := HK2.out; omega⟩, ⟨by (with_reducible repeat (first | apply Kd.aH | apply Kd.aG | apply Kd.aQ)); exact er.out⟩, ⟨by repeat (first | (with_reducible first | exact HB.out | apply ag | apply af | apply ah) | exact HB.out)⟩⟩
          ·rw [if_neg c14] at H
           exact absurd H (by simp)
         ·rw [if_neg c13] at H
          exact absurd H (by simp)
        ·rw [if_neg c12] at H
         have c12b0 : decide (x6_2 < (l0.length : Int)) = false := decide_eq_false c12
         clear c12
         have H' := aa.mk H
         clear H
         go_wp2
         go_loopg [7] k2 (fun kq v7 w' => ∃ (x5_3 : List Int) (x7_3 : Int), v7 = .int .i64 x7_3 ∧ aa (bD.l1 kq l0 x5_3 x7_3 = some r) ∧ aa (kq ≤ k2) ∧ aa (Kd.R (Kd.int .i64) 3 w' w.heap.size (fun _ => True) v420 x5_3) ∧ aa (Below w.heap.size w w'))
         case atStart => exact ⟨(x5_2), ((l0.length : Int)), (by first | rfl | (simp; done) | (simp [*]; done)), H', ⟨Nat.le_refl _⟩, ⟨by (with_reducible repeat (first | apply Kd.aH | apply Kd.aG | apply Kd.aQ)); exact er.out⟩, ⟨by repeat (first | (with_reducible first | exact HB.out | apply ag | apply af | apply ah) | exact HB.out)⟩⟩
         case round =>
          clear H'
          try clear c1
          try clear p1
          try clear q1
          try clear hx1
          try clear p2
          try clear c4
          try clear p4
          try clear q4
          try clear hx4
          try clear c5
          try clear c6
          try clear p6
          try clear c8
          try clear c8b0
          try clear c8b1
          try clear c9
          try clear c9b0
          try clear c9b1
          try clear c10
          try clear c12
          try clear c12b0
          try clear c13
          try clear c13b0
          try clear c14
          try clear c14b0
          try clear p15
          try clear q15
          try clear hx15
          try clear hf15
          try clear uM
          try clear jm
          try clear p15
          try clear p2
          try clear p422
          try clear p6
          try clear q15
          try clear q422
          obtain ⟨x5_3, x7_3, rfl, HA, HK3, er, HB⟩ := hrel
          cases gk with
          | zero => exact absurd HA.out (by simp [bD.l1])
          | succ k3 =>
           have H := HA.out
           clear HA
           simp only [bD.l1] at H
           by_cases c18 : x7_3 < (x5_3.length : Int)
           ·rw [if_pos c18] at H
            have c18b0 : decide (x7_3 < (x5_3.length : Int)) = true := decide_eq_true c18
            clear c18
            by_cases c19 : 0 ≤ x7_3
            ·rw [if_pos c19] at H
             have c19b0 : decide (0 ≤ x7_3) = true := decide_eq_true c19
             clear c19
             obtain ⟨y424, hy424⟩ : ∃ y_ : List Int, y_ = (x5_3.set (x7_3 : Int).toNat (-7000000000000000101)) := ⟨_, rfl⟩
             replace H : (bD.l1 k3 l0 y424 (wrap64 (x7_3 + 1))) = some r := by first | (rw [hy424]; with_reducible exact H) | (have H2_ := (Option.bind_some _ _).symm.trans H; rw [hy424]; with_reducible exact H2_) | (have H2_ := (Option.bind_some _ _).symm.trans H; with_reducible exact H2_) | with_reducible exact H | (rw [hy424]; exact H) | exact H
             have Ny424 := aa.mk hy424
             clear hy424
             have H' := aa.mk H
             clear H
             obtain ⟨yu, ue, yj⟩ := Kd.bE er.out
             subst yj
             have p20 : 0 ≤ (x7_3 : Int) := of_decide_eq_true (by first | (with_reducible assumption) | assumption)
             have q20 : (x7_3 : Int) < ((x5_3.length : Int) : Int) := of_decide_eq_true (by first | (with_reducible assumption) | assumption)
             obtain ⟨go20, zv, ub, zh, gl20, cl20, zQ⟩ := Kd.nP er.out (by omega)
             (first | cases ub | (injection ub with ea_ en_ ec_; (first | subst ea_ | (injection ea_ with ea_; subst ea_)); subst ec_; clear en_))
             have GB20 := aa.mk zh
             have GG20 := aa.mk zQ
             clear zh gl20 zQ
             obtain ⟨Du, hf20_0⟩ := Kd.np 0 er.out (x7_3 : Int) p20 q20
             replace p20 := eq_true p20
             replace q20 := eq_true q20
             have vk := Kd.p7 er.out (x7_3 : Int) (-7000000000000000101)
             go_wp2_with (first | ((with_reducible refine jD (t := 3) (p := 44) rfl ?_); refine iX (t := 3) (p := 44) (v := ?vo_w23) (w1 := (wr.setCell ⟨go20, (x7_3 : Int).toNat, none⟩ (.int .i64 (-7000000000000000101)))) ?hg ?ho ?hn ?hr ?_; (case ho => rfl); (case hg => rfl); (case hn => rfl); (case hr => first | (go_simp; done) | (go_simp; rfl)); intro w23 hw; have hg : wr.grownBy w23 (some go20) := (by rw [hw]; exact vk.2); have hp_ : Kd.R (Kd.int .i64) 3 w23 w.heap.size (fun _ => True) (.slice (some ⟨go20, 0, none⟩) x5_3.length ue) y424 := (by rw [hw, Ny424.out]; exact vk.1); clear vk; have n0_ := aa.mk (hp_); have n1_ := aa.mk ((by rw [hw]; exact ak (HB.out) GB20.out : Below w.heap.size w w23)); clear er; clear HB; have er := n0_; have HB := n1_; clear n0_ n1_; clear hg hw hp_))
             go_roundg k3
             case measure => have := HJ2.out; have := HK2.out; have := HK3.out; omega
             case rel => exact ⟨(y424), (wrap64 (x7_3 + 1)), (by first | rfl | (simp; done) | (simp [*]; done)), H', ⟨by have := HJ2.out; have := HK2.out; have := HK3.out; omega⟩, ⟨by (with_reducible repeat (first | apply Kd.aH | apply Kd.aG | apply Kd.aQ)); exact er.out⟩, ⟨by repeat (first | (with_reducible first | exact HB.out | apply ag | apply af | apply ah) | exact HB.out)⟩⟩
            ·rw [if_neg c19] at H
             exact absurd H (by simp)
           ·rw [if_neg c18] at H
            have c18b0 : decide (x7_3 < (x5_3.length : Int)) = false := decide_eq_false c18
            clear c18
            by_cases c24 : 0 ≤ (l0.length : Int)
            ·rw [if_pos c24] at H
             have c24b0 := eq_true c24
             have c24b1 : decide (0 ≤ (l0.length : Int)) = true := decide_eq_true c24
             clear c24
             by_cases c25 : (l0.length : Int) ≤ (x5_3.length : Int)
             ·rw [if_pos c25] at H
              have c25b0 := eq_true c25
              have c25b1 : decide ((l0.length : Int) ≤ (x5_3.length : Int)) = true := decide_eq_true c25
              clear c25
              obtain ⟨y425, hy425⟩ : ∃ y_ : List Int, y_ = x5_3 := ⟨_, rfl⟩
              replace H : (some y425) = some r := by first | (rw [hy425]; with_reducible exact H) | (have H2_ := (Option.bind_some _ _).symm.trans H; rw [hy425]; with_reducible exact H2_) | (have H2_ := (Option.bind_some _ _).symm.trans H; with_reducible exact H2_) | with_reducible exact H | (rw [hy425]; exact H) | exact H
              have Ny425 := aa.mk hy425
              clear hy425
              obtain rfl := Option.some.inj H
              obtain rfl : y425 = x5_3 := Ny425.out
              obtain ⟨CO, Cm, DS⟩ := Kd.bE er.out
              subst DS
              have q27 : ((l0.length : Int) : Int) ≤ ((y425.length : Int) : Int) := of_decide_eq_true (by first | (with_reducible assumption) | assumption)
              obtain ⟨i027, tU, _, hsz27, _⟩ := info_parts iY
              have uY := vd (P := Tryz.prog) 22 3 .i64 Tryz.underlying22 tU CO y425.length Cm (l0.length : Int) (of_decide_eq_true (by first | (with_reducible assumption) | assumption)) q27 (Kd.bZ er.out).2.1
              rw [Int.toNat_natCast] at uY
              clear tU hsz27
              replace q27 := eq_true q27
              go_wp2
              go_ret
              exact ⟨CO, Cm, rfl, by (with_reducible repeat (first | apply Kd.aH | apply Kd.aG | apply Kd.aQ)); exact er.out, by repeat (first | (with_reducible first | exact HB.out | apply ag | apply af | apply ah) | exact HB.out)⟩
             ·rw [if_neg c25] at H
              exact absurd H (by simp)
            ·rw [if_neg c24] at H
             exact absurd H (by simp)
     ·rw [if_neg c9] at H
      exact absurd H (by simp)
    ·rw [if_neg c8] at H
     exact absurd H (by simp)
def fx.f (k : Nat) (a0_0 : Int) (a0_1 : Int) (l0_2 : List Int) (l0_3 : List Int) : Option (Int × Int × List Int × List Int) := (bD.f k l0_2).bind fun t431 => ((bD.f k l0_3).bind fun t434 => (some (a0_0, a0_1, t431, t434)))
set_option maxHeartbeats 8000000 in
set_option maxRecDepth 100000 in
theorem fx.calls (k : Nat) (a0_0 : Int) (a0_1 : Int) (A0_2 : Option Addr) (c0_2 : Nat) (l0_2 : List Int) (A0_3 : Option Addr) (c0_3 : Nat) (l0_3 : List Int) (r1 : Int) (r2 : Int) (r3 : List Int) (r4 : List Int) (w : World) (ca : Kd.C (Kd.int .i64) w A0_2 l0_2.length l0_2) (bX : l0_2.length ≤ c0_2) (b0 : Kd.C (Kd.int .i64) w A0_3 l0_3.length l0_3) (bW : l0_3.length ≤ c0_3) (h : fx.f k a0_0 a0_1 l0_2 l0_3 = some (r1, r2, r3, r4)) :
  Calls Tryz.prog 37 #[.agg #[.int .i64 a0_0, .int .i64 a0_1, .slice A0_2 l0_2.length c0_2, .slice A0_3 l0_3.length c0_3], .bool false] w fun e w' => ∃ (A2_ : Option Addr) (c2_ : Nat) (A3_ : Option Addr) (c3_ : Nat), e = .returned (.agg #[.int .i64 r1, .int .i64 r2, .slice A2_ l0_2.length c2_, .slice A3_ l0_3.length c3_]) ∧ Kd.R (Kd.int .i64) 3 w' w.heap.size (fun k_ => some k_ ≠ (Value.slice A3_ r4.length c3_).ownBlock) (.slice A2_ r3.length c2_) r3 ∧ Kd.R (Kd.int .i64) 3 w' w.heap.size (fun k_ => some k_ ≠ (Value.slice A2_ r3.length c2_).ownBlock) (.slice A3_ r4.length c3_) r4 ∧ Below w.heap.size w w' := by
 have hu24 := Tryz.underlying24
 have hu28 := Tryz.underlying28
 have cy := aa.mk ca
 have cD := aa.mk bX
 clear ca bX
 have cF := aa.mk b0
 have cK := aa.mk bW
 clear b0 bW
 have HB := aa.mk (Below.refl w.heap.size w)
 have H : ((bD.f k l0_2).bind fun t431 => ((bD.f k l0_3).bind fun t434 => (some (a0_0, a0_1, t431, t434)))) = some (r1, r2, r3, r4) := h
 clear h
 replace H := Option.bind_eq_some_iff.mp H
 obtain ⟨t431, A30, H⟩ := H
 replace H : ((bD.f k l0_3).bind fun t434 => (some (a0_0, a0_1, t431, t434))) = some (r1, r2, r3, r4) := H
 have A3 := aa.mk A30
 clear A30
 replace H := Option.bind_eq_some_iff.mp H
 obtain ⟨t434, A40, H⟩ := H
 replace H : (some (a0_0, a0_1, t431, t434)) = some (r1, r2, r3, r4) := H
 have A4 := aa.mk A40
 clear A40
 simp only [Option.some.injEq, Prod.mk.injEq] at H
 obtain ⟨rfl, rfl, rfl, rfl⟩ := H
 go_enter Tryz.func37, Tryz.ntmps37
 go_wp2_with (first | ((with_reducible refine aV (N := 2) rfl ?_); refine aM ?hg (N := 2) ?hd (cs := #[.int .i64 a0_0, .int .i64 a0_1, .slice A0_2 l0_2.length c0_2, .slice A0_3 l0_3.length c0_3]) (t := 24) ?hr ?_; (case hd => rfl); (case hg => rfl); (case hr => first | (go_simp; done) | (go_simp; rfl)); intro dB hg w5 hbox hb; have n0_ := aa.mk (ar (by repeat (first | (with_reducible first | exact HB.out | apply ag | apply af | apply ah) | exact HB.out)) hb); have n1_ := aa.mk (hbox); have n2_ := aa.mk ((by rw [hg]; exact (aq (by repeat (first | (with_reducible first | exact HB.out | apply ag | apply af | apply ah) | exact HB.out))) : w.heap.size ≤ dB)); have n3_ := aa.mk ((by rw [hg]; exact (aq (by repeat (first | (with_reducible first | exact HB.out | apply ag | apply af | apply ah) | exact HB.out))) : w.heap.size ≤ dB)); clear HB; have HB := n0_; have cP := n1_; have F4 := n2_; have fD := n3_; clear n0_ n1_ n2_ n3_; clear hb hbox hg) | ((with_reducible refine aV (N := 4) rfl ?_); refine aM ?hg (N := 4) ?hd (cs := #[.int .i64 0, .int .i64 0, .slice none 0 0, .slice none 0 0]) (t := 28) ?hr ?_; (case hd => rfl); (case hg => rfl); (case hr => first | (go_simp; done) | (go_simp; rfl)); intro dx hg w6 hbox hb; have n0_ := aa.mk (aD (g := dB) (o := .cells #[.int .i64 a0_0, .int .i64 a0_1, .slice A0_2 l0_2.length c0_2, .slice A0_3 l0_3.length c0_3] 24 (0, 0)) (by (with_reducible repeat (first | refine al ?_ _ | refine ao ?_ | refine an ?_ _)); exact cP.out) hb); have n1_ := aa.mk (ar (by repeat (first | (with_reducible first | exact HB.out | apply ag | apply af | apply ah | refine ak ?_ fD.out) | exact HB.out)) hb); have n2_ := aa.mk (hbox); have n3_ := aa.mk ((by rw [hg]; exact (aq (by repeat (first | (with_reducible first | exact HB.out | apply ag | apply af | apply ah | refine ak ?_ fD.out) | exact HB.out))) : w.heap.size ≤ dx)); have n4_ := aa.mk ((by rw [hg]; exact (aq (by repeat (first | (with_reducible first | exact HB.out | apply ag | apply af | apply ah | refine ak ?_ fD.out) | exact HB.out))) : w.heap.size ≤ dx)); have n5_ := aa.mk ((by rw [hg]; exact Nat.ne_of_lt (a7 (g := dB) (o := .cells #[.int .i64 a0_0, .int .i64 a0_1, .slice A0_2 l0_2.length c0_2, .slice A0_3 l0_3.length c0_3] 24 (0, 0)) (by (with_reducible repeat (first | refine al ?_ _ | refine ao ?_ | refine an ?_ _)); exact cP.out)) : dB ≠ dx)); have n6_ := aa.mk ((by rw [hg]; exact Nat.ne_of_gt (a7 (g := dB) (o := .cells #[.int .i64 a0_0, .int .i64 a0_1, .slice A0_2 l0_2.length c0_2, .slice A0_3 l0_3.length c0_3] 24 (0, 0)) (by (with_reducible repeat (first | refine al ?_ _ | refine ao ?_ | refine an ?_ _)); exact cP.out)) : dx ≠ dB)); clear cP; clear HB; have cP := n0_; have HB := n1_; have dC := n2_; have F3 := n3_; have gK := n4_; have nY := n5_; have nX := n6_; clear n0_ n1_ n2_ n3_ n4_ n5_ n6_; clear hb hbox hg) | ((with_reducible refine aV (N := 5) rfl ?_); refine aM ?hg (N := 5) ?hd (cs := #[.int .i64 0, .int .i64 0, .slice none 0 0, .slice none 0 0]) (t := 28) ?hr ?_; (case hd => rfl); (case hg => rfl); (case hr => first | (go_simp; done) | (go_simp; rfl)); intro dw hg w7 hbox hb; have n0_ := aa.mk (aD (g := dB) (o := .cells #[.int .i64 a0_0, .int .i64 a0_1, .slice A0_2 l0_2.length c0_2, .slice A0_3 l0_3.length c0_3] 24 (0, 0)) (by (with_reducible repeat (first | refine al ?_ _ | refine ao ?_ | refine an ?_ _)); exact cP.out) hb); have n1_ := aa.mk (aD (g := dx) (o := .cells #[.int .i64 0, .int .i64 0, .slice none 0 0, .slice none 0 0] 28 (0, 0)) (by (with_reducible repeat (first | refine al ?_ _ | refine ao ?_ | refine an ?_ _)); exact dC.out) hb); have n2_ := aa.mk (ar (by repeat (first | (with_reducible first | exact HB.out | apply ag | apply af | apply ah | refine ak ?_ fD.out | refine ak ?_ gK.out) | exact HB.out)) hb); have n3_ := aa.mk (hbox); have n4_ := aa.mk ((by rw [hg]; exact (aq (by repeat (first | (with_reducible first | exact HB.out | apply ag | apply af | apply ah | refine ak ?_ fD.out | refine ak ?_ gK.out) | exact HB.out))) : w.heap.size ≤ dw)); have n5_ := aa.mk ((by rw [hg]; exact (aq (by repeat (first | (with_reducible first | exact HB.out | apply ag | apply af | apply ah | refine ak ?_ fD.out | refine ak ?_ gK.out) | exact HB.out))) : w.heap.size ≤ dw)); have n6_ := aa.mk ((by rw [hg]; exact Nat.ne_of_lt (a7 (g := dB) (o := .cells #[.int .i64 a0_0, .int .i64 a0_1, .slice A0_2 l0_2.length c0_2, .slice A0_3 l0_3.length c0_3] 24 (0, 0)) (by (with_reducible repeat (first | refine al ?_ _ | refine ao ?_ | refine an ?_ _)); exact cP.out)) : dB ≠ dw)); have n7_ := aa.mk ((by rw [hg]; exact Nat.ne_of_gt (a7 (g := dB) (o := .cells #[.int .i64 a0_0, .int .i64 a0_1, .slice A0_2 l0_2.length c0_2, .slice A0_3 l0_3.length c0_3] 24 (0, 0)) (by (with_reducible repeat (first | refine al ?_ _ | refine ao ?_ | refine an ?_ _)); exact cP.out)) : dw ≠ dB)); have n8_ := aa.mk ((by rw [hg]; exact Nat.ne_of_lt (a7 (g := dx) (o := .cells #[.int .i64 0, .int .i64 0, .slice none 0 0, .slice none 0 0] 28 (0, 0)) (by (with_reducible repeat (first | refine al ?_ _ | refine ao ?_ | refine an ?_ _)); exact dC.out)) : dx ≠ dw)); have n9_ := aa.mk ((by rw [hg]; exact Nat.ne_of_gt (a7 (g := dx) (o := .cells #[.int .i64 0, .int .i64 0, .slice none 0 0, .slice none 0 0] 28 (0, 0)) (by (with_reducible repeat (first | refine al ?_ _ | refine ao ?_ | refine an ?_ _)); exact dC.out)) : dw ≠ dx)); clear cP; clear dC; clear HB; have cP := n0_; have dC := n1_; have HB := n2_; have cI := n3_; have F0 := n4_; have jH := n5_; have gv := n6_; have nW := n7_; have fA := n8_; have nV := n9_; clear n0_ n1_ n2_ n3_ n4_ n5_ n6_ n7_ n8_ n9_; clear hb hbox hg; have Bn := nY.out; have Bm := nX.out; have hnb9 := gv.out; have hnc9 := nW.out; have jV : w7.cell? ⟨dB, 0, none⟩ = some (.int .i64 a0_0) := (ai cP.out 0).trans rfl; have jU : w7.cell? ⟨dB, 1, none⟩ = some (.int .i64 a0_1) := (ai cP.out 1).trans rfl; have jT : w7.cell? ⟨dB, 2, none⟩ = some (.slice A0_2 l0_2.length c0_2) := (ai cP.out 2).trans rfl; have jS : w7.cell? ⟨dB, 3, none⟩ = some (.slice A0_3 l0_3.length c0_3) := (ai cP.out 3).trans rfl; have jR := aj cP.out 0; have jQ := aj cP.out 1; have jP := aj cP.out 2; have jO := aj cP.out 3; have vI := nV.out; have vH := fA.out; have iQ : w7.cell? ⟨dw, 0, none⟩ = some (.int .i64 0) := (ai cI.out 0).trans rfl; have iP : w7.cell? ⟨dw, 1, none⟩ = some (.int .i64 0) := (ai cI.out 1).trans rfl; have iM : w7.cell? ⟨dw, 2, none⟩ = some (.slice none 0 0) := (ai cI.out 2).trans rfl; have iL : w7.cell? ⟨dw, 3, none⟩ = some (.slice none 0 0) := (ai cI.out 3).trans rfl; have iK := aj cI.out 0; have iJ := aj cI.out 1; have iI := aj cI.out 2; have iH := aj cI.out 3) | ((with_reducible refine az (f := 66) rfl ?_); refine bI (some 15) rfl rfl Tryz.func66 (by kernel_rfl) rfl #[.slice A0_2 l0_2.length c0_2, .bool false] rfl (by (try simp only [List.map_toArray, List.map_cons, List.map_nil]); first | done | rfl | (simp only [List.length_drop, List.length_take]; rfl)) ?_; (with_reducible refine (bD.calls k _ _ l0_2 t431 _ ?side1 ?side2 A3.out).mono ?_); (case side1 => exact Kd.ax cy.out (by repeat (first | (with_reducible first | exact HB.out | apply ag | apply af | apply ah | refine ak ?_ fD.out | refine ak ?_ gK.out | refine ak ?_ jH.out) | exact HB.out))); (case side2 => exact cD.out); rintro e w13 ⟨fQ, fO, rfl, ho0, hb⟩; refine ⟨_, rfl, ?_⟩; have n0_ := aa.mk (Kd.cW ho0 (aq (by repeat (first | (with_reducible first | exact HB.out | apply ag | apply af | apply ah | refine ak ?_ fD.out | refine ak ?_ gK.out | refine ak ?_ jH.out) | exact HB.out)))); have n1_ := aa.mk (aD (g := dB) (o := .cells #[.int .i64 a0_0, .int .i64 a0_1, .slice A0_2 l0_2.length c0_2, .slice A0_3 l0_3.length c0_3] 24 (0, 0)) (by (with_reducible repeat (first | refine al ?_ _ | refine ao ?_ | refine an ?_ _)); refine cT ?_ gv.out _; (with_reducible repeat (first | refine al ?_ _ | refine ao ?_ | refine an ?_ _)); refine cT ?_ gv.out _; (with_reducible repeat (first | refine al ?_ _ | refine ao ?_ | refine an ?_ _)); exact cP.out) hb); have n2_ := aa.mk (aD (g := dx) (o := .cells #[.int .i64 0, .int .i64 0, .slice none 0 0, .slice none 0 0] 28 (0, 0)) (by (with_reducible repeat (first | refine al ?_ _ | refine ao ?_ | refine an ?_ _)); refine cT ?_ fA.out _; (with_reducible repeat (first | refine al ?_ _ | refine ao ?_ | refine an ?_ _)); refine cT ?_ fA.out _; (with_reducible repeat (first | refine al ?_ _ | refine ao ?_ | refine an ?_ _)); exact dC.out) hb); have n3_ := aa.mk (aD (g := dw) (o := .cells #[.int .i64 a0_0, .int .i64 a0_1, .slice none 0 0, .slice none 0 0] 28 (0, 0)) (by (with_reducible repeat (first | refine al ?_ _ | refine ao ?_ | refine an ?_ _)); refine bF (cs := #[.int .i64 a0_0, .int .i64 0, .slice none 0 0, .slice none 0 0]) ?_ 1 _ rfl; (with_reducible repeat (first | refine al ?_ _ | refine ao ?_ | refine an ?_ _)); refine bF (cs := #[.int .i64 0, .int .i64 0, .slice none 0 0, .slice none 0 0]) ?_ 0 _ rfl; (with_reducible repeat (first | refine al ?_ _ | refine ao ?_ | refine an ?_ _)); exact cI.out) hb); have n4_ := aa.mk (ar (by repeat (first | (with_reducible first | exact HB.out | apply ag | apply af | apply ah | refine ak ?_ fD.out | refine ak ?_ gK.out | refine ak ?_ jH.out) | exact HB.out)) hb); clear cP; clear dC; clear cI; clear HB; have kT := n0_; have cP := n1_; have dC := n2_; have cI := n3_; have HB := n4_; clear n0_ n1_ n2_ n3_ n4_; (try clear hb); (try clear hb2); (try clear hk); (try clear hi); (try clear ho0); have sE : w13.cell? ⟨dw, 0, none⟩ = some (.int .i64 a0_0) := (ai cI.out 0).trans rfl; have sD : w13.cell? ⟨dw, 1, none⟩ = some (.int .i64 a0_1) := (ai cI.out 1).trans rfl; have sC : w13.cell? ⟨dw, 2, none⟩ = some (.slice none 0 0) := (ai cI.out 2).trans rfl; have sB : w13.cell? ⟨dw, 3, none⟩ = some (.slice none 0 0) := (ai cI.out 3).trans rfl; have r9 := aj cI.out 0; have r8 := aj cI.out 1; have rZ := aj cI.out 2; have rY := aj cI.out 3; have l5 : w13.cell? ⟨dB, 0, none⟩ = some (.int .i64 a0_0) := (ai cP.out 0).trans rfl; have l4 : w13.cell? ⟨dB, 1, none⟩ = some (.int .i64 a0_1) := (ai cP.out 1).trans rfl; have na : w13.cell? ⟨dB, 2, none⟩ = some (.slice A0_2 l0_2.length c0_2) := (ai cP.out 2).trans rfl; have mZ : w13.cell? ⟨dB, 3, none⟩ = some (.slice A0_3 l0_3.length c0_3) := (ai cP.out 3).trans rfl; have lZ := aj cP.out 0; have lY := aj cP.out 1; have mY := aj cP.out 2; have mX := aj cP.out 3) | ((with_reducible refine az (f := 66) rfl ?_); refine bI (some 20) rfl rfl Tryz.func66 (by kernel_rfl) rfl #[.slice A0_3 l0_3.length c0_3, .bool false] rfl (by (try simp only [List.map_toArray, List.map_cons, List.map_nil]); first | done | rfl | (simp only [List.length_drop, List.length_take]; rfl)) ?_; (with_reducible refine (bD.calls k _ _ l0_3 t434 _ ?side1 ?side2 A4.out).mono ?_); (case side1 => exact Kd.ax cF.out (by repeat (first | (with_reducible first | exact HB.out | apply ag | apply af | apply ah | refine ak ?_ fD.out | refine ak ?_ gK.out | refine ak ?_ jH.out) | exact HB.out))); (case side2 => exact cK.out); rintro e w17 ⟨oP, oM, rfl, ho0, hb⟩; refine ⟨_, rfl, ?_⟩; have n0_ := aa.mk (Kd.qb (by (with_reducible repeat (first | apply Kd.aH | apply Kd.aG | apply Kd.aQ)); exact (Kd.bV (Kd.bp (p := ⟨dw, 2, none⟩) (Kd.cU kT.out cI.out (by decide)) (fun _ hk => hk.2) (.slice fQ l0_2.length fO)) (fun _ h_ => h_.1))) (Kd.kO ho0) hb); have n1_ := aa.mk (Kd.cW (Kd.p9 ho0 (Kd.ko (by (with_reducible repeat (first | apply Kd.aH | apply Kd.aG | apply Kd.aQ)); exact (Kd.bV (Kd.bp (p := ⟨dw, 2, none⟩) (Kd.cU kT.out cI.out (by decide)) (fun _ hk => hk.2) (.slice fQ l0_2.length fO)) (fun _ h_ => h_.1))))) (aq (by repeat (first | (with_reducible first | exact HB.out | apply ag | apply af | apply ah | refine ak ?_ fD.out | refine ak ?_ gK.out | refine ak ?_ jH.out) | exact HB.out)))); have n2_ := aa.mk (aD (g := dB) (o := .cells #[.int .i64 a0_0, .int .i64 a0_1, .slice A0_2 l0_2.length c0_2, .slice A0_3 l0_3.length c0_3] 24 (0, 0)) (by (with_reducible repeat (first | refine al ?_ _ | refine ao ?_ | refine an ?_ _)); refine cT ?_ gv.out _; (with_reducible repeat (first | refine al ?_ _ | refine ao ?_ | refine an ?_ _)); exact cP.out) hb); have n3_ := aa.mk (aD (g := dx) (o := .cells #[.int .i64 0, .int .i64 0, .slice none 0 0, .slice none 0 0] 28 (0, 0)) (by (with_reducible repeat (first | refine al ?_ _ | refine ao ?_ | refine an ?_ _)); refine cT ?_ fA.out _; (with_reducible repeat (first | refine al ?_ _ | refine ao ?_ | refine an ?_ _)); exact dC.out) hb); have n4_ := aa.mk (aD (g := dw) (o := .cells #[.int .i64 a0_0, .int .i64 a0_1, .slice fQ l0_2.length fO, .slice none 0 0] 28 (0, 0)) (by (with_reducible repeat (first | refine al ?_ _ | refine ao ?_ | refine an ?_ _)); refine bF (cs := #[.int .i64 a0_0, .int .i64 a0_1, .slice none 0 0, .slice none 0 0]) ?_ 2 _ rfl; (with_reducible repeat (first | refine al ?_ _ | refine ao ?_ | refine an ?_ _)); exact cI.out) hb); have n5_ := aa.mk (ar (by repeat (first | (with_reducible first | exact HB.out | apply ag | apply af | apply ah | refine ak ?_ fD.out | refine ak ?_ gK.out | refine ak ?_ jH.out) | exact HB.out)) hb); clear kT; clear cP; clear dC; clear cI; clear HB; have kT := n0_; have xo := n1_; have cP := n2_; have dC := n3_; have cI := n4_; have HB := n5_; clear n0_ n1_ n2_ n3_ n4_ n5_; (try clear hb); (try clear hb2); (try clear hk); (try clear hi); (try clear ho0); have wL : w17.cell? ⟨dw, 0, none⟩ = some (.int .i64 a0_0) := (ai cI.out 0).trans rfl; have wK : w17.cell? ⟨dw, 1, none⟩ = some (.int .i64 a0_1) := (ai cI.out 1).trans rfl; have wJ : w17.cell? ⟨dw, 2, none⟩ = some (.slice fQ l0_2.length fO) := (ai cI.out 2).trans rfl; have wI : w17.cell? ⟨dw, 3, none⟩ = some (.slice none 0 0) := (ai cI.out 3).trans rfl; have wa := aj cI.out 0; have vZ := aj cI.out 1; have vY := aj cI.out 2; have vX := aj cI.out 3; have wH : w17.cell? ⟨dx, 0, none⟩ = some (.int .i64 0) := (ai dC.out 0).trans rfl; have wG : w17.cell? ⟨dx, 1, none⟩ = some (.int .i64 0) := (ai dC.out 1).trans rfl; have wE : w17.cell? ⟨dx, 2, none⟩ = some (.slice none 0 0) := (ai dC.out 2).trans rfl; have wD : w17.cell? ⟨dx, 3, none⟩ = some (.slice none 0 0) := (ai dC.out 3).trans rfl; have vW := aj dC.out 0; have vV := aj dC.out 1; have vU := aj dC.out 2; have vT := aj dC.out 3))
 refine bodyPost_ret (results_cell_row rfl _ _ dx 28 #[.int .i64 a0_0, .int .i64 a0_1, .slice fQ l0_2.length fO, .slice oP l0_3.length oM] (0, 0) _ rfl (by (with_reducible repeat (first | refine al ?_ _ | refine ao ?_ | refine an ?_ _)); refine bF (cs := #[.int .i64 a0_0, .int .i64 a0_1, .slice fQ l0_2.length fO, .slice none 0 0]) ?_ 3 _ rfl; (with_reducible repeat (first | refine al ?_ _ | refine ao ?_ | refine an ?_ _)); refine bF (cs := #[.int .i64 a0_0, .int .i64 a0_1, .slice none 0 0, .slice none 0 0]) ?_ 2 _ rfl; (with_reducible repeat (first | refine al ?_ _ | refine ao ?_ | refine an ?_ _)); refine bF (cs := #[.int .i64 a0_0, .int .i64 0, .slice none 0 0, .slice none 0 0]) ?_ 1 _ rfl; (with_reducible repeat (first | refine al ?_ _ | refine ao ?_ | refine an ?_ _)); refine bF (cs := #[.int .i64 0, .int .i64 0, .slice none 0 0, .slice none 0 0]) ?_ 0 _ rfl; (with_reducible repeat (first | refine al ?_ _ | refine ao ?_ | refine an ?_ _)); refine cT ?_ fA.out _; (with_reducible repeat (first | refine al ?_ _ | refine ao ?_ | refine an ?_ _)); exact dC.out) Tryz.underlying28 rfl (by kernel_rfl)) rfl ?_
 exact ⟨fQ, fO, oP, oM, by first | rfl | (simp [av, au] <;> rfl) | (simp [*, av, au] <;> rfl), by (with_reducible repeat (first | apply Kd.aH | apply Kd.aG | apply Kd.aQ)); exact Kd.bV (Kd.bp (p := ⟨dx, 3, none⟩) (Kd.bp (p := ⟨dx, 2, none⟩) (Kd.bp (p := ⟨dx, 1, none⟩) (Kd.bp (p := ⟨dx, 0, none⟩) (Kd.bp (p := ⟨dw, 3, none⟩) (Kd.cU (Kd.cU kT.out cI.out (by decide)) dC.out (by decide)) (fun _ hk => hk.1.2) (.slice oP l0_3.length oM)) (fun _ hk => hk.2) (.int .i64 a0_0)) (fun _ hk => hk.2) (.int .i64 a0_1)) (fun _ hk => hk.2) (.slice fQ l0_2.length fO)) (fun _ hk => hk.2) (.slice oP l0_3.length oM)) (fun _ hk => hk.1.1.2), by (with_reducible repeat (first | apply Kd.aH | apply Kd.aG | apply Kd.aQ)); exact Kd.bV (Kd.bp (p := ⟨dx, 3, none⟩) (Kd.bp (p := ⟨dx, 2, none⟩) (Kd.bp (p := ⟨dx, 1, none⟩) (Kd.bp (p := ⟨dx, 0, none⟩) (Kd.bp (p := ⟨dw, 3, none⟩) (Kd.cU (Kd.cU xo.out cI.out (by decide)) dC.out (by decide)) (fun _ hk => hk.1.2) (.slice oP l0_3.length oM)) (fun _ hk => hk.2) (.int .i64 a0_0)) (fun _ hk => hk.2) (.int .i64 a0_1)) (fun _ hk => hk.2) (.slice fQ l0_2.length fO)) (fun _ hk => hk.2) (.slice oP l0_3.length oM)) (fun _ hk => hk.1.1.2), by repeat (first | (with_reducible first | exact HB.out | apply ag | apply af | apply ah | refine ak ?_ fD.out | refine ak ?_ gK.out | refine ak ?_ jH.out) | exact HB.out)⟩
def ez.f (k : Nat) (a0_0 : Int) (a0_1 : Int) (l0_2 : List Int) (l0_3 : List Int) (a0_4 : Int) (a0_5 : Bool) (a0_6 : Int) : Option (Int × Int × List Int × List Int × Int × Bool × Int) := (fx.f k a0_0 a0_1 l0_2 l0_3).bind fun bt440 => (some (bt440.1, bt440.2.1, bt440.2.2.1, bt440.2.2.2, a0_4, a0_5, a0_6))
set_option maxHeartbeats 8000000 in
set_option maxRecDepth 100000 in
theorem ez.calls (k : Nat) (a0_0 : Int) (a0_1 : Int) (A0_2 : Option Addr) (c0_2 : Nat) (l0_2 : List Int) (A0_3 : Option Addr) (c0_3 : Nat) (l0_3 : List Int) (a0_4 : Int) (a0_5 : Bool) (a0_6 : Int) (r1 : Int) (r2 : Int) (r3 : List Int) (r4 : List Int) (r5 : Int) (r6 : Bool) (r7 : Int) (w : World) (ca : Kd.C (Kd.int .i64) w A0_2 l0_2.length l0_2) (bX : l0_2.length ≤ c0_2) (b0 : Kd.C (Kd.int .i64) w A0_3 l0_3.length l0_3) (bW : l0_3.length ≤ c0_3) (h : ez.f k a0_0 a0_1 l0_2 l0_3 a0_4 a0_5 a0_6 = some (r1, r2, r3, r4, r5, r6, r7)) :
  Calls Tryz.prog 11 #[.agg #[.int .i64 a0_0, .int .i64 a0_1, .slice A0_2 l0_2.length c0_2, .slice A0_3 l0_3.length c0_3, .int .i64 a0_4, .bool a0_5, .int .i64 a0_6], .bool false] w fun e w' => ∃ (A2_ : Option Addr) (c2_ : Nat) (A3_ : Option Addr) (c3_ : Nat), e = .returned (.agg #[.int .i64 r1, .int .i64 r2, .slice A2_ l0_2.length c2_, .slice A3_ l0_3.length c3_, .int .i64 r5, .bool r6, .int .i64 r7]) ∧ Kd.R (Kd.int .i64) 3 w' w.heap.size (fun k_ => some k_ ≠ (Value.slice A3_ r4.length c3_).ownBlock) (.slice A2_ r3.length c2_) r3 ∧ Kd.R (Kd.int .i64) 3 w' w.heap.size (fun k_ => some k_ ≠ (Value.slice A2_ r3.length c2_).ownBlock) (.slice A3_ r4.length c3_) r4 ∧ Below w.heap.size w w' := by
 have hu26 := Tryz.underlying26
 have hu32 := Tryz.underlying32
 have hu24 := Tryz.underlying24
 have hu28 := Tryz.underlying28
 have cy := aa.mk ca
 have cD := aa.mk bX
 clear ca bX
 have cF := aa.mk b0
 have cK := aa.mk bW
 clear b0 bW
 have HB := aa.mk (Below.refl w.heap.size w)
 have H : ((fx.f k a0_0 a0_1 l0_2 l0_3).bind fun bt440 => (some (bt440.1, bt440.2.1, bt440.2.2.1, bt440.2.2.2, a0_4, a0_5, a0_6))) = some (r1, r2, r3, r4, r5, r6, r7) := h
 clear h
 replace H := Option.bind_eq_some_iff.mp H
 obtain ⟨⟨t440, t441, t442, t445⟩, A30, H⟩ := H
 replace H : (some (t440, t441, t442, t445, a0_4, a0_5, a0_6)) = some (r1, r2, r3, r4, r5, r6, r7) := H
 have A3 := aa.mk A30
 clear A30
 simp only [Option.some.injEq, Prod.mk.injEq] at H
 obtain ⟨rfl, rfl, rfl, rfl, rfl, rfl, rfl⟩ := H
 go_enter Tryz.func11, Tryz.ntmps11
 go_wp2_with (first | ((with_reducible refine aV (N := 2) rfl ?_); refine aM ?hg (N := 2) ?hd (cs := #[.int .i64 a0_0, .int .i64 a0_1, .slice A0_2 l0_2.length c0_2, .slice A0_3 l0_3.length c0_3, .int .i64 a0_4, .bool a0_5, .int .i64 a0_6]) (t := 26) ?hr ?_; (case hd => rfl); (case hg => rfl); (case hr => first | (go_simp; done) | (go_simp; rfl)); intro dg hg w4 hbox hb; have n0_ := aa.mk (ar (by repeat (first | (with_reducible first | exact HB.out | apply ag | apply af | apply ah) | exact HB.out)) hb); have n1_ := aa.mk (hbox); have n2_ := aa.mk ((by rw [hg]; exact (aq (by repeat (first | (with_reducible first | exact HB.out | apply ag | apply af | apply ah) | exact HB.out))) : w.heap.size ≤ dg)); have n3_ := aa.mk ((by rw [hg]; exact (aq (by repeat (first | (with_reducible first | exact HB.out | apply ag | apply af | apply ah) | exact HB.out))) : w.heap.size ≤ dg)); clear HB; have HB := n0_; have cn := n1_; have FZ := n2_; have gJ := n3_; clear n0_ n1_ n2_ n3_; clear hb hbox hg) | ((with_reducible refine aV (N := 4) rfl ?_); refine aM ?hg (N := 4) ?hd (cs := #[.int .i64 0, .int .i64 0, .slice none 0 0, .slice none 0 0, .int .i64 0, .bool false, .int .i64 0]) (t := 32) ?hr ?_; (case hd => rfl); (case hg => rfl); (case hr => first | (go_simp; done) | (go_simp; rfl)); intro cO hg w5 hbox hb; have n0_ := aa.mk (aD (g := dg) (o := .cells #[.int .i64 a0_0, .int .i64 a0_1, .slice A0_2 l0_2.length c0_2, .slice A0_3 l0_3.length c0_3, .int .i64 a0_4, .bool a0_5, .int .i64 a0_6] 26 (0, 0)) (by (with_reducible repeat (first | refine al ?_ _ | refine ao ?_ | refine an ?_ _)); exact cn.out) hb); have n1_ := aa.mk (ar (by repeat (first | (with_reducible first | exact HB.out | apply ag | apply af | apply ah | refine ak ?_ gJ.out) | exact HB.out)) hb); have n2_ := aa.mk (hbox); have n3_ := aa.mk ((by rw [hg]; exact (aq (by repeat (first | (with_reducible first | exact HB.out | apply ag | apply af | apply ah | refine ak ?_ gJ.out) | exact HB.out))) : w.heap.size ≤ cO)); have n4_ := aa.mk ((by rw [hg]; exact (aq (by repeat (first | (with_reducible first | exact HB.out | apply ag | apply af | apply ah | refine ak ?_ gJ.out) | exact HB.out))) : w.heap.size ≤ cO)); have n5_ := aa.mk ((by rw [hg]; exact Nat.ne_of_lt (a7 (g := dg) (o := .cells #[.int .i64 a0_0, .int .i64 a0_1, .slice A0_2 l0_2.length c0_2, .slice A0_3 l0_3.length c0_3, .int .i64 a0_4, .bool a0_5, .int .i64 a0_6] 26 (0, 0)) (by (with_reducible repeat (first | refine al ?_ _ | refine ao ?_ | refine an ?_ _)); exact cn.out)) : dg ≠ cO)); have n6_ := aa.mk ((by rw [hg]; exact Nat.ne_of_gt (a7 (g := dg) (o := .cells #[.int .i64 a0_0, .int .i64 a0_1, .slice A0_2 l0_2.length c0_2, .slice A0_3 l0_3.length c0_3, .int .i64 a0_4, .bool a0_5, .int .i64 a0_6] 26 (0, 0)) (by (with_reducible repeat (first | refine al ?_ _ | refine ao ?_ | refine an ?_ _)); exact cn.out)) : cO ≠ dg)); clear cn; clear HB; have cn := n0_; have HB := n1_; have dr := n2_; have FY := n3_; have jG := n4_; have nU := n5_; have nS := n6_; clear n0_ n1_ n2_ n3_ n4_ n5_ n6_; clear hb hbox hg) | ((with_reducible refine aV (N := 5) rfl ?_); refine aM ?hg (N := 5) ?hd (cs := #[.int .i64 0, .int .i64 0, .slice none 0 0, .slice none 0 0, .int .i64 0, .bool false, .int .i64 0]) (t := 32) ?hr ?_; (case hd => rfl); (case hg => rfl); (case hr => first | (go_simp; done) | (go_simp; rfl)); intro dd hg w6 hbox hb; have n0_ := aa.mk (aD (g := dg) (o := .cells #[.int .i64 a0_0, .int .i64 a0_1, .slice A0_2 l0_2.length c0_2, .slice A0_3 l0_3.length c0_3, .int .i64 a0_4, .bool a0_5, .int .i64 a0_6] 26 (0, 0)) (by (with_reducible repeat (first | refine al ?_ _ | refine ao ?_ | refine an ?_ _)); exact cn.out) hb); have n1_ := aa.mk (aD (g := cO) (o := .cells #[.int .i64 0, .int .i64 0, .slice none 0 0, .slice none 0 0, .int .i64 0, .bool false, .int .i64 0] 32 (0, 0)) (by (with_reducible repeat (first | refine al ?_ _ | refine ao ?_ | refine an ?_ _)); exact dr.out) hb); have n2_ := aa.mk (ar (by repeat (first | (with_reducible first | exact HB.out | apply ag | apply af | apply ah | refine ak ?_ gJ.out | refine ak ?_ jG.out) | exact HB.out)) hb); have n3_ := aa.mk (hbox); have n4_ := aa.mk ((by rw [hg]; exact (aq (by repeat (first | (with_reducible first | exact HB.out | apply ag | apply af | apply ah | refine ak ?_ gJ.out | refine ak ?_ jG.out) | exact HB.out))) : w.heap.size ≤ dd)); have n5_ := aa.mk ((by rw [hg]; exact (aq (by repeat (first | (with_reducible first | exact HB.out | apply ag | apply af | apply ah | refine ak ?_ gJ.out | refine ak ?_ jG.out) | exact HB.out))) : w.heap.size ≤ dd)); have n6_ := aa.mk ((by rw [hg]; exact Nat.ne_of_lt (a7 (g := dg) (o := .cells #[.int .i64 a0_0, .int .i64 a0_1, .slice A0_2 l0_2.length c0_2, .slice A0_3 l0_3.length c0_3, .int .i64 a0_4, .bool a0_5, .int .i64 a0_6] 26 (0, 0)) (by (with_reducible repeat (first | refine al ?_ _ | refine ao ?_ | refine an ?_ _)); exact cn.out)) : dg ≠ dd)); have n7_ := aa.mk ((by rw [hg]; exact Nat.ne_of_gt (a7 (g := dg) (o := .cells #[.int .i64 a0_0, .int .i64 a0_1, .slice A0_2 l0_2.length c0_2, .slice A0_3 l0_3.length c0_3, .int .i64 a0_4, .bool a0_5, .int .i64 a0_6] 26 (0, 0)) (by (with_reducible repeat (first | refine al ?_ _ | refine ao ?_ | refine an ?_ _)); exact cn.out)) : dd ≠ dg)); have n8_ := aa.mk ((by rw [hg]; exact Nat.ne_of_lt (a7 (g := cO) (o := .cells #[.int .i64 0, .int .i64 0, .slice none 0 0, .slice none 0 0, .int .i64 0, .bool false, .int .i64 0] 32 (0, 0)) (by (with_reducible repeat (first | refine al ?_ _ | refine ao ?_ | refine an ?_ _)); exact dr.out)) : cO ≠ dd)); have n9_ := aa.mk ((by rw [hg]; exact Nat.ne_of_gt (a7 (g := cO) (o := .cells #[.int .i64 0, .int .i64 0, .slice none 0 0, .slice none 0 0, .int .i64 0, .bool false, .int .i64 0] 32 (0, 0)) (by (with_reducible repeat (first | refine al ?_ _ | refine ao ?_ | refine an ?_ _)); exact dr.out)) : dd ≠ cO)); clear cn; clear dr; clear HB; have cn := n0_; have dr := n1_; have HB := n2_; have ec := n3_; have FX := n4_; have nu := n5_; have nT := n6_; have nR := n7_; have dQ := n8_; have nQ := n9_; clear n0_ n1_ n2_ n3_ n4_ n5_ n6_ n7_ n8_ n9_; clear hb hbox hg; have hnb7 := nU.out; have hnc7 := nS.out; have Bn := nT.out; have Bm := nR.out; have gS : w6.cell? ⟨dg, 0, none⟩ = some (.int .i64 a0_0) := (ai cn.out 0).trans rfl; have gR : w6.cell? ⟨dg, 1, none⟩ = some (.int .i64 a0_1) := (ai cn.out 1).trans rfl; have iD : w6.cell? ⟨dg, 2, none⟩ = some (.slice A0_2 l0_2.length c0_2) := (ai cn.out 2).trans rfl; have iC : w6.cell? ⟨dg, 3, none⟩ = some (.slice A0_3 l0_3.length c0_3) := (ai cn.out 3).trans rfl; have si : w6.cell? ⟨dg, 4, none⟩ = some (.int .i64 a0_4) := (ai cn.out 4).trans rfl; have sh : w6.cell? ⟨dg, 5, none⟩ = some (.bool a0_5) := (ai cn.out 5).trans rfl; have uT : w6.cell? ⟨dg, 6, none⟩ = some (.int .i64 a0_6) := (ai cn.out 6).trans rfl; have gQ := aj cn.out 0; have gP := aj cn.out 1; have iB := aj cn.out 2; have iA := aj cn.out 3; have rN := aj cn.out 4; have rM := aj cn.out 5; have uO := aj cn.out 6) | ((with_reducible refine az (f := 37) rfl ?_); refine bI (some 9) rfl rfl Tryz.func37 (by kernel_rfl) rfl #[.agg #[.int .i64 a0_0, .int .i64 a0_1, .slice A0_2 l0_2.length c0_2, .slice A0_3 l0_3.length c0_3], .bool false] rfl (by (try simp only [List.map_toArray, List.map_cons, List.map_nil]); first | done | rfl | (simp only [List.length_drop, List.length_take]; rfl)) ?_; (with_reducible refine (fx.calls k a0_0 a0_1 _ _ l0_2 _ _ l0_3 t440 t441 t442 t445 _ ?side1 ?side2 ?side3 ?side4 A3.out).mono ?_); (case side1 => repeat (first | exact (Kd.ax cy.out HB.out) | (with_reducible refine Kd.aX ?_ _) | (with_reducible refine Kd.aW ?_ _) | (with_reducible refine Kd.bh ?_))); (case side2 => exact cD.out); (case side3 => repeat (first | exact (Kd.ax cF.out HB.out) | (with_reducible refine Kd.aX ?_ _) | (with_reducible refine Kd.aW ?_ _) | (with_reducible refine Kd.bh ?_))); (case side4 => exact cK.out); rintro e w10 ⟨jI, jg, fQ, fO, rfl, ho0, ho1, hb⟩; refine ⟨_, rfl, ?_⟩; have n0_ := aa.mk (Kd.cW ho0 (aq (by repeat (first | (with_reducible first | exact HB.out | apply ag | apply af | apply ah | refine ak ?_ gJ.out | refine ak ?_ jG.out | refine ak ?_ nu.out) | exact HB.out)))); have n1_ := aa.mk (Kd.cW ho1 (aq (by repeat (first | (with_reducible first | exact HB.out | apply ag | apply af | apply ah | refine ak ?_ gJ.out | refine ak ?_ jG.out | refine ak ?_ nu.out) | exact HB.out)))); have n2_ := aa.mk (aD (g := dg) (o := .cells #[.int .i64 a0_0, .int .i64 a0_1, .slice A0_2 l0_2.length c0_2, .slice A0_3 l0_3.length c0_3, .int .i64 a0_4, .bool a0_5, .int .i64 a0_6] 26 (0, 0)) (by (with_reducible repeat (first | refine al ?_ _ | refine ao ?_ | refine an ?_ _)); exact cn.out) hb); have n3_ := aa.mk (aD (g := cO) (o := .cells #[.int .i64 0, .int .i64 0, .slice none 0 0, .slice none 0 0, .int .i64 0, .bool false, .int .i64 0] 32 (0, 0)) (by (with_reducible repeat (first | refine al ?_ _ | refine ao ?_ | refine an ?_ _)); exact dr.out) hb); have n4_ := aa.mk (aD (g := dd) (o := .cells #[.int .i64 0, .int .i64 0, .slice none 0 0, .slice none 0 0, .int .i64 0, .bool false, .int .i64 0] 32 (0, 0)) (by (with_reducible repeat (first | refine al ?_ _ | refine ao ?_ | refine an ?_ _)); exact ec.out) hb); have n5_ := aa.mk (ar (by repeat (first | (with_reducible first | exact HB.out | apply ag | apply af | apply ah | refine ak ?_ gJ.out | refine ak ?_ jG.out | refine ak ?_ nu.out) | exact HB.out)) hb); clear cn; clear dr; clear ec; clear HB; have xn := n0_; have xm := n1_; have cn := n2_; have dr := n3_; have ec := n4_; have HB := n5_; clear n0_ n1_ n2_ n3_ n4_ n5_; (try clear hb); (try clear hb2); (try clear hk); (try clear hi); (try clear ho0); (try clear ho1); have vI := nQ.out; have vH := dQ.out; have iQ : w10.cell? ⟨dd, 0, none⟩ = some (.int .i64 0) := (ai ec.out 0).trans rfl; have iP : w10.cell? ⟨dd, 1, none⟩ = some (.int .i64 0) := (ai ec.out 1).trans rfl; have iM : w10.cell? ⟨dd, 2, none⟩ = some (.slice none 0 0) := (ai ec.out 2).trans rfl; have iL : w10.cell? ⟨dd, 3, none⟩ = some (.slice none 0 0) := (ai ec.out 3).trans rfl; have sJ : w10.cell? ⟨dd, 4, none⟩ = some (.int .i64 0) := (ai ec.out 4).trans rfl; have sI : w10.cell? ⟨dd, 5, none⟩ = some (.bool false) := (ai ec.out 5).trans rfl; have sH : w10.cell? ⟨dd, 6, none⟩ = some (.int .i64 0) := (ai ec.out 6).trans rfl; have iK := aj ec.out 0; have iJ := aj ec.out 1; have iI := aj ec.out 2; have iH := aj ec.out 3; have sf := aj ec.out 4; have sd := aj ec.out 5; have sc := aj ec.out 6; have sE : w10.cell? ⟨dg, 0, none⟩ = some (.int .i64 a0_0) := (ai cn.out 0).trans rfl; have sD : w10.cell? ⟨dg, 1, none⟩ = some (.int .i64 a0_1) := (ai cn.out 1).trans rfl; have sC : w10.cell? ⟨dg, 2, none⟩ = some (.slice A0_2 l0_2.length c0_2) := (ai cn.out 2).trans rfl; have sB : w10.cell? ⟨dg, 3, none⟩ = some (.slice A0_3 l0_3.length c0_3) := (ai cn.out 3).trans rfl; have Ca : w10.cell? ⟨dg, 4, none⟩ = some (.int .i64 a0_4) := (ai cn.out 4).trans rfl; have B9 : w10.cell? ⟨dg, 5, none⟩ = some (.bool a0_5) := (ai cn.out 5).trans rfl; have B8 : w10.cell? ⟨dg, 6, none⟩ = some (.int .i64 a0_6) := (ai cn.out 6).trans rfl; have r9 := aj cn.out 0; have r8 := aj cn.out 1; have rZ := aj cn.out 2; have rY := aj cn.out 3; have BH := aj cn.out 4; have BG := aj cn.out 5; have BF := aj cn.out 6; have l5 : w10.cell? ⟨cO, 0, none⟩ = some (.int .i64 0) := (ai dr.out 0).trans rfl; have l4 : w10.cell? ⟨cO, 1, none⟩ = some (.int .i64 0) := (ai dr.out 1).trans rfl; have na : w10.cell? ⟨cO, 2, none⟩ = some (.slice none 0 0) := (ai dr.out 2).trans rfl; have mZ : w10.cell? ⟨cO, 3, none⟩ = some (.slice none 0 0) := (ai dr.out 3).trans rfl; have B7 : w10.cell? ⟨cO, 4, none⟩ = some (.int .i64 0) := (ai dr.out 4).trans rfl; have B6 : w10.cell? ⟨cO, 5, none⟩ = some (.bool false) := (ai dr.out 5).trans rfl; have BZ : w10.cell? ⟨cO, 6, none⟩ = some (.int .i64 0) := (ai dr.out 6).trans rfl; have lZ := aj dr.out 0; have lY := aj dr.out 1; have mY := aj dr.out 2; have mX := aj dr.out 3; have BE := aj dr.out 4; have BD := aj dr.out 5; have BC := aj dr.out 6))
 refine bodyPost_ret (results_cell_row rfl _ _ cO 32 #[.int .i64 t440, .int .i64 t441, .slice jI l0_2.length jg, .slice fQ l0_3.length fO, .int .i64 a0_4, .bool a0_5, .int .i64 a0_6] (0, 0) _ rfl (by (with_reducible repeat (first | refine al ?_ _ | refine ao ?_ | refine an ?_ _)); refine bF (cs := #[.int .i64 t440, .int .i64 t441, .slice jI l0_2.length jg, .slice fQ l0_3.length fO, .int .i64 a0_4, .bool a0_5, .int .i64 0]) ?_ 6 _ rfl; (with_reducible repeat (first | refine al ?_ _ | refine ao ?_ | refine an ?_ _)); refine bF (cs := #[.int .i64 t440, .int .i64 t441, .slice jI l0_2.length jg, .slice fQ l0_3.length fO, .int .i64 a0_4, .bool false, .int .i64 0]) ?_ 5 _ rfl; (with_reducible repeat (first | refine al ?_ _ | refine ao ?_ | refine an ?_ _)); refine bF (cs := #[.int .i64 t440, .int .i64 t441, .slice jI l0_2.length jg, .slice fQ l0_3.length fO, .int .i64 0, .bool false, .int .i64 0]) ?_ 4 _ rfl; (with_reducible repeat (first | refine al ?_ _ | refine ao ?_ | refine an ?_ _)); refine bF (cs := #[.int .i64 t440, .int .i64 t441, .slice jI l0_2.length jg, .slice none 0 0, .int .i64 0, .bool false, .int .i64 0]) ?_ 3 _ rfl; (with_reducible repeat (first | refine al ?_ _ | refine ao ?_ | refine an ?_ _)); refine bF (cs := #[.int .i64 t440, .int .i64 t441, .slice none 0 0, .slice none 0 0, .int .i64 0, .bool false, .int .i64 0]) ?_ 2 _ rfl; (with_reducible repeat (first | refine al ?_ _ | refine ao ?_ | refine an ?_ _)); refine bF (cs := #[.int .i64 t440, .int .i64 0, .slice none 0 0, .slice none 0 0, .int .i64 0, .bool false, .int .i64 0]) ?_ 1 _ rfl; (with_reducible repeat (first | refine al ?_ _ | refine ao ?_ | refine an ?_ _)); refine bF (cs := #[.int .i64 0, .int .i64 0, .slice none 0 0, .slice none 0 0, .int .i64 0, .bool false, .int .i64 0]) ?_ 0 _ rfl; (with_reducible repeat (first | refine al ?_ _ | refine ao ?_ | refine an ?_ _)); refine cT ?_ dQ.out _; (with_reducible repeat (first | refine al ?_ _ | refine ao ?_ | refine an ?_ _)); refine cT ?_ dQ.out _; (with_reducible repeat (first | refine al ?_ _ | refine ao ?_ | refine an ?_ _)); refine cT ?_ dQ.out _; (with_reducible repeat (first | refine al ?_ _ | refine ao ?_ | refine an ?_ _)); refine cT ?_ dQ.out _; (with_reducible repeat (first | refine al ?_ _ | refine ao ?_ | refine an ?_ _)); refine cT ?_ dQ.out _; (with_reducible repeat (first | refine al ?_ _ | refine ao ?_ | refine an ?_ _)); refine cT ?_ dQ.out _; (with_reducible repeat (first | refine al ?_ _ | refine ao ?_ | refine an ?_ _)); refine cT ?_ dQ.out _; (with_reducible repeat (first | refine al ?_ _ | refine ao ?_ | refine an ?_ _)); exact dr.out) Tryz.underlying32 rfl (by kernel_rfl)) rfl ?_
 exact ⟨jI, jg, fQ, fO, by first | rfl | (simp [av, au] <;> rfl) | (simp [*, av, au] <;> rfl), by (with_reducible repeat (first | apply Kd.aH | apply Kd.aG | apply Kd.aQ)); exact Kd.bV (Kd.bp (p := ⟨cO, 6, none⟩) (Kd.bp (p := ⟨cO, 5, none⟩) (Kd.bp (p := ⟨cO, 4, none⟩) (Kd.bp (p := ⟨cO, 3, none⟩) (Kd.bp (p := ⟨cO, 2, none⟩) (Kd.bp (p := ⟨cO, 1, none⟩) (Kd.bp (p := ⟨cO, 0, none⟩) (Kd.bp (p := ⟨dd, 6, none⟩) (Kd.bp (p := ⟨dd, 5, none⟩) (Kd.bp (p := ⟨dd, 4, none⟩) (Kd.bp (p := ⟨dd, 3, none⟩) (Kd.bp (p := ⟨dd, 2, none⟩) (Kd.bp (p := ⟨dd, 1, none⟩) (Kd.bp (p := ⟨dd, 0, none⟩) (Kd.cU (Kd.cU xn.out ec.out (by decide)) dr.out (by decide)) (fun _ hk => hk.1.2) (.int .i64 t440)) (fun _ hk => hk.1.2) (.int .i64 t441)) (fun _ hk => hk.1.2) (.slice jI l0_2.length jg)) (fun _ hk => hk.1.2) (.slice fQ l0_3.length fO)) (fun _ hk => hk.1.2) (.int .i64 a0_4)) (fun _ hk => hk.1.2) (.bool a0_5)) (fun _ hk => hk.1.2) (.int .i64 a0_6)) (fun _ hk => hk.2) (.int .i64 t440)) (fun _ hk => hk.2) (.int .i64 t441)) (fun _ hk => hk.2) (.slice jI l0_2.length jg)) (fun _ hk => hk.2) (.slice fQ l0_3.length fO)) (fun _ hk => hk.2) (.int .i64 a0_4)) (fun _ hk => hk.2) (.bool a0_5)) (fun _ hk => hk.2) (.int .i64 a0_6)) (fun _ hk => hk.1.1), by (with_reducible repeat (first | apply Kd.aH | apply Kd.aG | apply Kd.aQ)); exact Kd.bV (Kd.bp (p := ⟨cO, 6, none⟩) (Kd.bp (p := ⟨cO, 5, none⟩) (Kd.bp (p := ⟨cO, 4, none⟩) (Kd.bp (p := ⟨cO, 3, none⟩) (Kd.bp (p := ⟨cO, 2, none⟩) (Kd.bp (p := ⟨cO, 1, none⟩) (Kd.bp (p := ⟨cO, 0, none⟩) (Kd.bp (p := ⟨dd, 6, none⟩) (Kd.bp (p := ⟨dd, 5, none⟩) (Kd.bp (p := ⟨dd, 4, none⟩) (Kd.bp (p := ⟨dd, 3, none⟩) (Kd.bp (p := ⟨dd, 2, none⟩) (Kd.bp (p := ⟨dd, 1, none⟩) (Kd.bp (p := ⟨dd, 0, none⟩) (Kd.cU (Kd.cU xm.out ec.out (by decide)) dr.out (by decide)) (fun _ hk => hk.1.2) (.int .i64 t440)) (fun _ hk => hk.1.2) (.int .i64 t441)) (fun _ hk => hk.1.2) (.slice jI l0_2.length jg)) (fun _ hk => hk.1.2) (.slice fQ l0_3.length fO)) (fun _ hk => hk.1.2) (.int .i64 a0_4)) (fun _ hk => hk.1.2) (.bool a0_5)) (fun _ hk => hk.1.2) (.int .i64 a0_6)) (fun _ hk => hk.2) (.int .i64 t440)) (fun _ hk => hk.2) (.int .i64 t441)) (fun _ hk => hk.2) (.slice jI l0_2.length jg)) (fun _ hk => hk.2) (.slice fQ l0_3.length fO)) (fun _ hk => hk.2) (.int .i64 a0_4)) (fun _ hk => hk.2) (.bool a0_5)) (fun _ hk => hk.2) (.int .i64 a0_6)) (fun _ hk => hk.1.1), by repeat (first | (with_reducible first | exact HB.out | apply ag | apply af | apply ah | refine ak ?_ gJ.out | refine ak ?_ jG.out | refine ak ?_ nu.out) | exact HB.out)⟩
end Go.Proofs.YtmjlmloomkodpaaGreatDoor.PA
namespace Go.Proofs.YtmjlmloomkodpaaGreatDoor.PA
open Go.RowKit Go.Proofs.ae.aw Go.Proofs.ae.aJ Go.Proofs.ae.aN
attribute [local go_sem] bo bm bC bB a6 aZ bn bj
set_option linter.unusedVariables false
set_option linter.unusedSimpArgs false
def bP.l0 : Nat → List Int → List Int → Int → Option (Bool)
 | 0, _, _, _ => none
 | k + 1, x0, x1, x5 => if x5 < (x0.length : Int) then (if 0 ≤ x5 then (if x5 < (x1.length : Int) then (if (rd x0 x5) = (rd x1 x5) then (bP.l0 k x0 x1 (wrap64 (x5 + 1))) else (some false)) else (none)) else (none)) else (some true)
def bP.f (k : Nat) (l0 : List Int) (l1 : List Int) : Option (Bool) := if (l0.length : Int) = (l1.length : Int) then (bP.l0 k l0 l1 0) else (some false)
set_option maxHeartbeats 8000000 in
set_option maxRecDepth 100000 in
theorem bP.calls (k : Nat) (A0 : Option Addr) (c0 : Nat) (l0 : List Int) (A1 : Option Addr) (c1 : Nat) (l1 : List Int) (r : Bool) (w : World) (hr0 : Kd.C (Kd.int .i64) w A0 l0.length l0) (hc0 : l0.length ≤ c0) (hr1 : Kd.C (Kd.int .i64) w A1 l1.length l1) (hc1 : l1.length ≤ c1) (h : bP.f k l0 l1 = some r) :
  Calls Tryz.prog 41 #[.slice A0 l0.length c0, .slice A1 l1.length c1] w fun e w' => e = .returned (.bool r) ∧ aK w w' := by
 have HR0 := aa.mk hr0
 have HC0 := aa.mk hc0
 clear hr0 hc0
 have HR1 := aa.mk hr1
 have HC1 := aa.mk hc1
 clear hr1 hc1
 have H : (if (l0.length : Int) = (l1.length : Int) then (bP.l0 k l0 l1 0) else (some false)) = some r := h
 clear h
 by_cases c3 : (l0.length : Int) = (l1.length : Int)
 ·rw [if_pos c3] at H
  have c3b0 : ((l0.length : Int) == (l1.length : Int)) = true := beq_iff_eq.mpr c3
  have c3b1 : ((l0.length : Int) != (l1.length : Int)) = false := bne_eq_false_iff_eq.mpr c3
  have c3b2 : (l0.length == l1.length) = true := by first | simpa using c3 | (simp at c3 ⊢; omega)
  clear c3
  have H' := aa.mk H
  clear H
  go_enter Tryz.func41, Tryz.ntmps41
  go_wp2
  repeat (go_quiet (fail); try go_wp2)
  go_loopg [5] k (fun kq v5 w' => ∃ (x5_1 : Int), v5 = .int .i64 x5_1 ∧ aa (bP.l0 kq l0 l1 x5_1 = some r) ∧ aa (kq ≤ k) ∧ aK w w')
  case atStart => exact ⟨(0), (by first | rfl | (simp; done) | (simp [*]; done)), H', ⟨Nat.le_refl _⟩, by repeat (first | exact aK.refl _ | apply aK.step)⟩
  case round =>
   clear H'
   try clear c1
   try clear p2
   try clear c3
   try clear c3b0
   try clear c3b1
   try clear c3b2
   obtain ⟨x5_1, rfl, HA, HK1, ⟨m1, rfl⟩⟩ := hrel
   cases gk with
   | zero => exact absurd HA.out (by simp [bP.l0])
   | succ k1 =>
    have H := HA.out
    clear HA
    simp only [bP.l0] at H
    by_cases c4 : x5_1 < (l0.length : Int)
    ·rw [if_pos c4] at H
     have c4b0 : decide (x5_1 < (l0.length : Int)) = true := decide_eq_true c4
     clear c4
     by_cases c5 : 0 ≤ x5_1
     ·rw [if_pos c5] at H
      have c5b0 : decide (0 ≤ x5_1) = true := decide_eq_true c5
      clear c5
      by_cases c6 : x5_1 < (l1.length : Int)
      ·rw [if_pos c6] at H
       have c6b0 : decide (x5_1 < (l1.length : Int)) = true := decide_eq_true c6
       clear c6
       by_cases c7 : (rd l0 x5_1) = (rd l1 x5_1)
       ·rw [if_pos c7] at H
        have c7b0 : ((rd l0 x5_1) == (rd l1 x5_1)) = true := beq_iff_eq.mpr c7
        have c7b1 : ((rd l0 x5_1) != (rd l1 x5_1)) = false := bne_eq_false_iff_eq.mpr c7
        clear c7
        have H' := aa.mk H
        clear H
        have p393 : 0 ≤ (x5_1 : Int) := of_decide_eq_true (by first | (with_reducible assumption) | assumption)
        have q393 : x5_1 < (l0.length : Int) := of_decide_eq_true (by first | (with_reducible assumption) | assumption)
        obtain ⟨ad393, e393, Bb⟩ := Kd.dv HR0.out x5_1 p393 q393
        cases e393
        replace p393 := eq_true p393
        replace q393 := eq_true q393
        have p394 : 0 ≤ (x5_1 : Int) := of_decide_eq_true (by first | (with_reducible assumption) | assumption)
        have q394 : x5_1 < (l1.length : Int) := of_decide_eq_true (by first | (with_reducible assumption) | assumption)
        obtain ⟨ad394, e394, Ba⟩ := Kd.dv HR1.out x5_1 p394 q394
        cases e394
        replace p394 := eq_true p394
        replace q394 := eq_true q394
        go_wp2
        repeat (go_quiet (fail); try go_wp2)
        go_roundg k1
        case measure => have := HK1.out; omega
        case rel => exact ⟨(wrap64 (x5_1 + 1)), (by first | rfl | (simp; done) | (simp [*]; done)), H', ⟨by have := HK1.out; omega⟩, by repeat (first | exact aK.refl _ | apply aK.step)⟩
       ·rw [if_neg c7] at H
        have c7b0 : ((rd l0 x5_1) == (rd l1 x5_1)) = false := beq_eq_false_iff_ne.mpr c7
        have c7b1 : ((rd l0 x5_1) != (rd l1 x5_1)) = true := bne_iff_ne.mpr c7
        obtain rfl := Option.some.inj H
        have p393 : 0 ≤ (x5_1 : Int) := of_decide_eq_true (by first | (with_reducible assumption) | assumption)
        have q393 : x5_1 < (l0.length : Int) := of_decide_eq_true (by first | (with_reducible assumption) | assumption)
        obtain ⟨ad393, e393, Bb⟩ := Kd.dv HR0.out x5_1 p393 q393
        cases e393
        replace p393 := eq_true p393
        replace q393 := eq_true q393
        have p394 : 0 ≤ (x5_1 : Int) := of_decide_eq_true (by first | (with_reducible assumption) | assumption)
        have q394 : x5_1 < (l1.length : Int) := of_decide_eq_true (by first | (with_reducible assumption) | assumption)
        obtain ⟨ad394, e394, Ba⟩ := Kd.dv HR1.out x5_1 p394 q394
        cases e394
        replace p394 := eq_true p394
        replace q394 := eq_true q394
        go_wp2
        repeat (go_quiet (fail); try go_wp2)
        go_ret
        exact ⟨by first | rfl | (simp; done) | (simp [*]; done), by repeat (first | exact aK.refl _ | apply aK.step)⟩
      ·rw [if_neg c6] at H
       exact absurd H (by simp)
     ·rw [if_neg c5] at H
      exact absurd H (by simp)
    ·rw [if_neg c4] at H
     have c4b0 : decide (x5_1 < (l0.length : Int)) = false := decide_eq_false c4
     clear c4
     obtain rfl := Option.some.inj H
     go_wp2
     repeat (go_quiet (fail); try go_wp2)
     go_ret
     exact ⟨by first | rfl | (simp; done) | (simp [*]; done), by repeat (first | exact aK.refl _ | apply aK.step)⟩
 ·rw [if_neg c3] at H
  have c3b0 : ((l0.length : Int) == (l1.length : Int)) = false := beq_eq_false_iff_ne.mpr c3
  have c3b1 : ((l0.length : Int) != (l1.length : Int)) = true := bne_iff_ne.mpr c3
  have c3b2 : (l0.length == l1.length) = false := by first | simpa using c3 | (simp at c3 ⊢; omega)
  obtain rfl := Option.some.inj H
  go_enter Tryz.func41, Tryz.ntmps41
  go_wp2
  repeat (go_quiet (fail); try go_wp2)
  go_ret
  exact ⟨by first | rfl | (simp; done) | (simp [*]; done), by repeat (first | exact aK.refl _ | apply aK.step)⟩
end Go.Proofs.YtmjlmloomkodpaaGreatDoor.PA
namespace Go.Proofs.YtmjlmloomkodpaaGreatDoor.PA
open Go.RowKit Go.Proofs.ae.aw Go.Proofs.ae.aJ Go.Proofs.ae.aN
attribute [local go_sem] bo bm bC bB a6 aZ bn bj
set_option linter.unusedVariables false
set_option linter.unusedSimpArgs false
theorem xd {P : Program} (t e : TypeId) (kh : IntKind) {i : TypeInfo} (ht : P.underlying t = some (.slice e)) (hi : P.info? e = some i) (A : Option Addr) (n c : Nat) (j : Int) (h0 : 0 ≤ j) (hm : j ≤ c) :
    ∀ W : World, (Instr.slice t (.slice A n c) none (some (.int kh j)) none).run P W = .ok (.slice A j.toNat c) W := by
  intro W
  have hel : P.elem t = e := by simp [Program.elem, ht]
  have hu : P.underlying t = some (.slice (P.elem t)) := by rw [hel]; exact ht
  have ha : (A.map fun x => x.add 0) = A := by cases A <;> simp [Addr.add]
  rw [run_slice_h W t A n c hu kh j h0 (by omega), hel]
  simp [sizeOf, typeInfo, hi, sliced, Result.andThen, ha]
set_option maxHeartbeats 8000000 in
set_option maxRecDepth 100000 in
theorem kQ (k : Nat) (A0 : Option Addr) (c0 : Nat) (A1 : Option Addr) (c1 : Nat) (n : Nat) (full : List Int) (rm : Int) (w : World)
    (hrm : cq.f (n : Int) = some rm) (hn : wrap64 ((n : Int) + rm) = (full.length : Int))
    (hr0 : Kd.C (Kd.int .i64) w A0 full.length full) (hc0 : full.length ≤ c0) (hr1 : Kd.C (Kd.int .i64) w A1 full.length full) (hc1 : full.length ≤ c1)
    (he : bP.f k full full = some true) :
    Calls Tryz.prog 71 #[.slice A0 n c0, .slice A1 n c1] w fun e w' => e = .returned (.bool true) ∧ aK w w' := by
  have HR0 := aa.mk hr0
  have HR1 := aa.mk hr1
  have HC0 := aa.mk hc0
  have HC1 := aa.mk hc1
  have HE := aa.mk he
  have HRM := aa.mk hrm
  obtain ⟨i0, hi0, _, hsz0, _⟩ := info_parts iY
  obtain ⟨j, hj⟩ : ∃ j : Int, wrap64 ((n : Int) + rm) = j := ⟨_, rfl⟩
  have hjw : IntKind.i64.wrap ((n : Int) + rm) = j := (a8 _).trans hj
  have hjl : j = (full.length : Int) := by rw [← hj, hn]
  have EG := xd (P := Tryz.prog) 22 3 .i64 Tryz.underlying22 hi0 A0 n c0 j (by omega) (by omega)
  have EF := xd (P := Tryz.prog) 22 3 .i64 Tryz.underlying22 hi0 A1 n c1 j (by omega) (by omega)
  have hjt : j.toNat = full.length := by rw [hjl, Int.toNat_natCast]
  rw [hjt] at EG EF
  clear hjt hjl hr0 hr1 hc0 hc1 he hrm hn hi0 hsz0
  have hnn : (n == n) = true := by simp
  go_enter Tryz.func71, Tryz.ntmps71
  go_wp2_with (first | (go_at_call 104; (with_reducible refine (cq.calls (n : Int) rm _ HRM.out).mono ?_); rintro e w' ⟨rfl, ⟨nd, rfl⟩⟩) | (go_at_call 41; (with_reducible refine (bP.calls k A0 c0 full A1 c1 full true _ ?side1 HC0.out ?side3 HC1.out HE.out).mono ?_); (case side1 => repeat (first | exact HR0.out | (with_reducible refine Kd.aX ?_ _) | (with_reducible refine Kd.aW ?_ _) | (with_reducible refine Kd.bh ?_))); (case side3 => repeat (first | exact HR1.out | (with_reducible refine Kd.aX ?_ _) | (with_reducible refine Kd.aW ?_ _) | (with_reducible refine Kd.bh ?_))); rintro e w' ⟨rfl, ⟨nd, rfl⟩⟩; (try first | exact ⟨rfl, _, World.drewN_drewN _ _ _⟩ | exact ⟨rfl, _, Eq.trans (World.drewN_drewN _ _ _) (congrArg (World.drewN _) (Nat.add_assoc _ _ _))⟩)))
  repeat (go_quiet ((go_at_call 41; (with_reducible refine (bP.calls k A0 c0 full A1 c1 full true _ ?side1 HC0.out ?side3 HC1.out HE.out).mono ?_); (case side1 => repeat (first | exact HR0.out | (with_reducible refine Kd.aX ?_ _) | (with_reducible refine Kd.aW ?_ _) | (with_reducible refine Kd.bh ?_))); (case side3 => repeat (first | exact HR1.out | (with_reducible refine Kd.aX ?_ _) | (with_reducible refine Kd.aW ?_ _) | (with_reducible refine Kd.bh ?_))); rintro e w' ⟨rfl, ⟨nd, rfl⟩⟩; (try first | exact ⟨rfl, _, World.drewN_drewN _ _ _⟩ | exact ⟨rfl, _, Eq.trans (World.drewN_drewN _ _ _) (congrArg (World.drewN _) (Nat.add_assoc _ _ _))⟩))))
  go_wp2
  go_ret
  exact ⟨by first | rfl | (simp; done) | (simp [*]; done), by repeat (first | exact aK.refl _ | apply aK.step)⟩
set_option maxHeartbeats 8000000 in
set_option maxRecDepth 100000 in
theorem mV (k : Nat) (a b : Int) (A2 : Option Addr) (c2 : Nat) (A3 : Option Addr) (c3 : Nat) (B2 : Option Addr) (d2 : Nat) (B3 : Option Addr) (d3 : Nat) (n2 n3 : Nat) (f2 f3 : List Int) (m2 m3 : Int) (w : World)
    (hm2 : cq.f (n2 : Int) = some m2) (hn2 : wrap64 ((n2 : Int) + m2) = (f2.length : Int)) (hm3 : cq.f (n3 : Int) = some m3) (hn3 : wrap64 ((n3 : Int) + m3) = (f3.length : Int))
    (ha2 : Kd.C (Kd.int .i64) w A2 f2.length f2) (hc2 : f2.length ≤ c2) (ha3 : Kd.C (Kd.int .i64) w A3 f3.length f3) (hc3 : f3.length ≤ c3)
    (hb2 : Kd.C (Kd.int .i64) w B2 f2.length f2) (hd2 : f2.length ≤ d2) (hb3 : Kd.C (Kd.int .i64) w B3 f3.length f3) (hd3 : f3.length ≤ d3)
    (he2 : bP.f k f2 f2 = some true) (he3 : bP.f k f3 f3 = some true) :
    Calls Tryz.prog 42 #[.agg #[.int .i64 a, .int .i64 b, .slice A2 n2 c2, .slice A3 n3 c3], .agg #[.int .i64 a, .int .i64 b, .slice B2 n2 d2, .slice B3 n3 d3]] w fun e w' => e = .returned (.bool true) ∧ Below w.heap.size w w' := by
  have X2 := fun (W : World) (h : Below w.heap.size w W) => kQ k A2 c2 B2 d2 n2 f2 m2 W hm2 hn2 (Kd.ax ha2 h) hc2 (Kd.ax hb2 h) hd2 he2
  have X3 := fun (W : World) (h : Below w.heap.size w W) => kQ k A3 c3 B3 d3 n3 f3 m3 W hm3 hn3 (Kd.ax ha3 h) hc3 (Kd.ax hb3 h) hd3 he3
  have HX2 := aa.mk X2
  have HX3 := aa.mk X3
  clear hm2 hn2 hm3 hn3 ha2 hc2 ha3 hc3 hb2 hd2 hb3 hd3 he2 he3 X2 X3
  have q1 : (a != a) = false := by simp
  have q2 : (b != b) = false := by simp
  go_enter Tryz.func42, Tryz.ntmps42
  go_wp2_with (first
    | (go_at_call 71; (with_reducible refine (HX2.out _ ?b2).mono ?_); (case b2 => repeat (first | exact Below.refl _ _ | apply ag | apply af | apply ah)); rintro e w' ⟨rfl, ⟨nd, rfl⟩⟩)
    | (go_at_call 71; (with_reducible refine (HX3.out _ ?b3).mono ?_); (case b3 => repeat (first | exact Below.refl _ _ | apply ag | apply af | apply ah)); rintro e w' ⟨rfl, ⟨nd, rfl⟩⟩))
  go_ret
  exact ⟨rfl, by repeat (first | exact Below.refl _ _ | apply ag | apply af | apply ah)⟩
set_option maxHeartbeats 8000000 in
set_option maxRecDepth 100000 in
theorem mT (k : Nat) (a b : Int) (A2 : Option Addr) (c2 : Nat) (A3 : Option Addr) (c3 : Nat) (B2 : Option Addr) (d2 : Nat) (B3 : Option Addr) (d3 : Nat) (n2 n3 : Nat) (f2 f3 : List Int) (m2 m3 : Int) (mt : Int) (mv : Bool) (sq : Int) (w : World)
    (hm2 : cq.f (n2 : Int) = some m2) (hn2 : wrap64 ((n2 : Int) + m2) = (f2.length : Int)) (hm3 : cq.f (n3 : Int) = some m3) (hn3 : wrap64 ((n3 : Int) + m3) = (f3.length : Int))
    (ha2 : Kd.C (Kd.int .i64) w A2 f2.length f2) (hc2 : f2.length ≤ c2) (ha3 : Kd.C (Kd.int .i64) w A3 f3.length f3) (hc3 : f3.length ≤ c3)
    (hb2 : Kd.C (Kd.int .i64) w B2 f2.length f2) (hd2 : f2.length ≤ d2) (hb3 : Kd.C (Kd.int .i64) w B3 f3.length f3) (hd3 : f3.length ≤ d3)
    (he2 : bP.f k f2 f2 = some true) (he3 : bP.f k f3 f3 = some true) :
    Calls Tryz.prog 14 #[.agg #[.int .i64 a, .int .i64 b, .slice A2 n2 c2, .slice A3 n3 c3, .int .i64 mt, .bool mv, .int .i64 sq], .agg #[.int .i64 a, .int .i64 b, .slice B2 n2 d2, .slice B3 n3 d3, .int .i64 mt, .bool mv, .int .i64 sq]] w fun e w' => e = .returned (.bool true) ∧ Below w.heap.size w w' := by
  have X := fun (W : World) (h : Below w.heap.size w W) => mV k a b A2 c2 A3 c3 B2 d2 B3 d3 n2 n3 f2 f3 m2 m3 W hm2 hn2 hm3 hn3 (Kd.ax ha2 h) hc2 (Kd.ax ha3 h) hc3 (Kd.ax hb2 h) hd2 (Kd.ax hb3 h) hd3 he2 he3
  have HX := aa.mk X
  clear hm2 hn2 hm3 hn3 ha2 hc2 ha3 hc3 hb2 hd2 hb3 hd3 he2 he3 X
  have q1 : (mt != mt) = false := by simp
  have q2 : (mv != mv) = false := by simp
  have q3 : (sq != sq) = false := by simp
  go_enter Tryz.func14, Tryz.ntmps14
  go_wp2_with fail
  obtain ⟨W, hW⟩ : ∃ W, (w.alloc (.cells #[.int .i64 a, .int .i64 b, .slice A2 n2 c2, .slice A3 n3 c3, .int .i64 mt, .bool mv, .int .i64 sq] 32)).alloc (.cells #[.int .i64 a, .int .i64 b, .slice B2 n2 d2, .slice B3 n3 d3, .int .i64 mt, .bool mv, .int .i64 sq] 32) = W := ⟨_, rfl⟩
  have HBW := aa.mk (show Below w.heap.size w W by rw [← hW]; exact ag (ag (Below.refl _ _) _) _)
  have hbx : W.heap[w.heap.size]? = some (.cells #[.int .i64 a, .int .i64 b, .slice A2 n2 c2, .slice A3 n3 c3, .int .i64 mt, .bool mv, .int .i64 sq] 32 (0, 0)) := by
    rw [← hW, Below.heap_alloc _ _ _ (by simp)]
    exact heap_alloc_new _ _
  have hby : W.heap[w.heap.size + 1]? = some (.cells #[.int .i64 a, .int .i64 b, .slice B2 n2 d2, .slice B3 n3 d3, .int .i64 mt, .bool mv, .int .i64 sq] 32 (0, 0)) := by
    have h := heap_alloc_new (w.alloc (.cells #[.int .i64 a, .int .i64 b, .slice A2 n2 c2, .slice A3 n3 c3, .int .i64 mt, .bool mv, .int .i64 sq] 32)) (.cells #[.int .i64 a, .int .i64 b, .slice B2 n2 d2, .slice B3 n3 d3, .int .i64 mt, .bool mv, .int .i64 sq] 32)
    rw [World.size_alloc] at h
    rw [← hW]; exact h
  have HBX := aa.mk hbx
  have HBY := aa.mk hby
  clear hbx hby
  rw [hW]
  clear hW
  go_wp2_with (go_at_call 42; (with_reducible refine (HX.out W HBW.out).mono ?_); rintro e w1 ⟨rfl, hb⟩; have HK0 := aa.mk ((hb.block _ (a7 HBX.out)).trans HBX.out); have HK1 := aa.mk ((hb.block _ (a7 HBY.out)).trans HBY.out); have HB1 := aa.mk (HBW.out.trans (hb.mono HBW.out.size)); clear hb; have gx0 : w1.cell? ⟨w.heap.size, 0, none⟩ = some (.int .i64 a) := (ai HK0.out 0).trans rfl; have gx1 : w1.cell? ⟨w.heap.size, 1, none⟩ = some (.int .i64 b) := (ai HK0.out 1).trans rfl; have gx2 : w1.cell? ⟨w.heap.size, 2, none⟩ = some (.slice A2 n2 c2) := (ai HK0.out 2).trans rfl; have gx3 : w1.cell? ⟨w.heap.size, 3, none⟩ = some (.slice A3 n3 c3) := (ai HK0.out 3).trans rfl; have gx4 : w1.cell? ⟨w.heap.size, 4, none⟩ = some (.int .i64 mt) := (ai HK0.out 4).trans rfl; have gx5 : w1.cell? ⟨w.heap.size, 5, none⟩ = some (.bool mv) := (ai HK0.out 5).trans rfl; have gx6 : w1.cell? ⟨w.heap.size, 6, none⟩ = some (.int .i64 sq) := (ai HK0.out 6).trans rfl; have gy0 : w1.cell? ⟨w.heap.size + 1, 0, none⟩ = some (.int .i64 a) := (ai HK1.out 0).trans rfl; have gy1 : w1.cell? ⟨w.heap.size + 1, 1, none⟩ = some (.int .i64 b) := (ai HK1.out 1).trans rfl; have gy2 : w1.cell? ⟨w.heap.size + 1, 2, none⟩ = some (.slice B2 n2 d2) := (ai HK1.out 2).trans rfl; have gy3 : w1.cell? ⟨w.heap.size + 1, 3, none⟩ = some (.slice B3 n3 d3) := (ai HK1.out 3).trans rfl; have gy4 : w1.cell? ⟨w.heap.size + 1, 4, none⟩ = some (.int .i64 mt) := (ai HK1.out 4).trans rfl; have gy5 : w1.cell? ⟨w.heap.size + 1, 5, none⟩ = some (.bool mv) := (ai HK1.out 5).trans rfl; have gy6 : w1.cell? ⟨w.heap.size + 1, 6, none⟩ = some (.int .i64 sq) := (ai HK1.out 6).trans rfl)
  go_ret
  exact ⟨rfl, HB1.out⟩
end Go.Proofs.YtmjlmloomkodpaaGreatDoor.PA
namespace Go.Proofs.YtmjlmloomkodpaaGreatDoor.PA
open Go.RowKit Go.Proofs.ae.aw Go.Proofs.ae.aJ Go.Proofs.ae.aN
attribute [local go_sem] bo bm bC bB a6 aZ bn bj
set_option linter.unusedVariables false
set_option linter.unusedSimpArgs false
def dM.f (l0 : List Int) (a1 : Int) : Option (Int) := if (wrap64 (a1 - (l0.length : Int))) < 0 then (some (-1)) else (some (wrap64 (a1 - (l0.length : Int))))
set_option maxHeartbeats 8000000 in
set_option maxRecDepth 100000 in
theorem dM.calls (A0 : Option Addr) (c0 : Nat) (l0 : List Int) (a1 : Int) (r : Int) (w : World) (hr0 : Kd.C (Kd.int .i64) w A0 l0.length l0) (hc0 : l0.length ≤ c0) (h : dM.f l0 a1 = some r) :
  Calls Tryz.prog 62 #[.slice A0 l0.length c0, .int .i64 a1] w fun e w' => e = .returned (.int .i64 r) ∧ aK w w' := by
 have HR0 := aa.mk hr0
 have HC0 := aa.mk hc0
 clear hr0 hc0
 have H : (if (wrap64 (a1 - (l0.length : Int))) < 0 then (some (-1)) else (some (wrap64 (a1 - (l0.length : Int))))) = some r := h
 clear h
 by_cases c3 : (wrap64 (a1 - (l0.length : Int))) < 0
 ·rw [if_pos c3] at H
  have c3b0 : decide ((wrap64 (a1 - (l0.length : Int))) < 0) = true := decide_eq_true c3
  clear c3
  obtain rfl := Option.some.inj H
  go_enter Tryz.func62, Tryz.ntmps62
  go_wp2
  go_ret
  exact ⟨by first | rfl | (simp; done) | (simp [*]; done), by repeat (first | exact aK.refl _ | apply aK.step)⟩
 ·rw [if_neg c3] at H
  have c3b0 : decide ((wrap64 (a1 - (l0.length : Int))) < 0) = false := decide_eq_false c3
  clear c3
  obtain rfl := Option.some.inj H
  go_enter Tryz.func62, Tryz.ntmps62
  go_wp2
  go_ret
  exact ⟨by first | rfl | (simp; done) | (simp [*]; done), by repeat (first | exact aK.refl _ | apply aK.step)⟩
end Go.Proofs.YtmjlmloomkodpaaGreatDoor.PA
namespace Go.Proofs.YtmjlmloomkodpaaGreatDoor.PA
open Go.RowKit Go.Proofs.ae.aw Go.Proofs.ae.aJ Go.Proofs.ae.aN
attribute [local go_sem] bo bm bC bB a6 aZ bn bj
set_option linter.unusedVariables false
set_option linter.unusedSimpArgs false
def fj.f (a0_0 : Int) (a0_1 : Int) (l0_2 : List Int) (l0_3 : List Int) (a1 : Int) : Option (Int) := (dM.f l0_2 a1).bind fun t389 => (if t389 < 0 then (some (-1)) else ((dM.f l0_3 t389).bind fun t390 => (if t390 < 0 then (some (-1)) else (some t390))))
set_option maxHeartbeats 8000000 in
set_option maxRecDepth 100000 in
theorem fj.calls (a0_0 : Int) (a0_1 : Int) (A0_2 : Option Addr) (c0_2 : Nat) (l0_2 : List Int) (A0_3 : Option Addr) (c0_3 : Nat) (l0_3 : List Int) (a1 : Int) (r : Int) (w : World) (ca : Kd.C (Kd.int .i64) w A0_2 l0_2.length l0_2) (bX : l0_2.length ≤ c0_2) (b0 : Kd.C (Kd.int .i64) w A0_3 l0_3.length l0_3) (bW : l0_3.length ≤ c0_3) (h : fj.f a0_0 a0_1 l0_2 l0_3 a1 = some r) :
  Calls Tryz.prog 33 #[.agg #[.int .i64 a0_0, .int .i64 a0_1, .slice A0_2 l0_2.length c0_2, .slice A0_3 l0_3.length c0_3], .int .i64 a1] w fun e w' => e = .returned (.int .i64 r) ∧ Below w.heap.size w w' := by
 have hu24 := Tryz.underlying24
 have cy := aa.mk ca
 have cD := aa.mk bX
 clear ca bX
 have cF := aa.mk b0
 have cK := aa.mk bW
 clear b0 bW
 have HB := aa.mk (Below.refl w.heap.size w)
 have H : ((dM.f l0_2 a1).bind fun t389 => (if t389 < 0 then (some (-1)) else ((dM.f l0_3 t389).bind fun t390 => (if t390 < 0 then (some (-1)) else (some t390))))) = some r := h
 clear h
 replace H := Option.bind_eq_some_iff.mp H
 obtain ⟨t389, A30, H⟩ := H
 replace H : (if t389 < 0 then (some (-1)) else ((dM.f l0_3 t389).bind fun t390 => (if t390 < 0 then (some (-1)) else (some t390)))) = some r := H
 have A3 := aa.mk A30
 clear A30
 by_cases c4 : t389 < 0
 ·rw [if_pos c4] at H
  have c4b0 : decide (t389 < 0) = true := decide_eq_true c4
  clear c4
  obtain rfl := Option.some.inj H
  go_enter Tryz.func33, Tryz.ntmps33
  go_wp2_with (first | ((with_reducible refine aV (N := 2) rfl ?_); refine aM ?hg (N := 2) ?hd (cs := #[.int .i64 a0_0, .int .i64 a0_1, .slice A0_2 l0_2.length c0_2, .slice A0_3 l0_3.length c0_3]) (t := 24) ?hr ?_; (case hd => rfl); (case hg => rfl); (case hr => first | (go_simp; done) | (go_simp; rfl)); intro gY hg w5 hbox hb; have n0_ := aa.mk (ar (by repeat (first | (with_reducible first | exact HB.out | apply ag | apply af | apply ah) | exact HB.out)) hb); have n1_ := aa.mk (hbox); have n2_ := aa.mk ((by rw [hg]; exact (aq (by repeat (first | (with_reducible first | exact HB.out | apply ag | apply af | apply ah) | exact HB.out))) : w.heap.size ≤ gY)); have n3_ := aa.mk ((by rw [hg]; exact (aq (by repeat (first | (with_reducible first | exact HB.out | apply ag | apply af | apply ah) | exact HB.out))) : w.heap.size ≤ gY)); clear HB; have HB := n0_; have fM := n1_; have Db := n2_; have qf := n3_; clear n0_ n1_ n2_ n3_; clear hb hbox hg; have sk : w5.cell? ⟨gY, 0, none⟩ = some (.int .i64 a0_0) := (ai fM.out 0).trans rfl; have sj : w5.cell? ⟨gY, 1, none⟩ = some (.int .i64 a0_1) := (ai fM.out 1).trans rfl; have uX : w5.cell? ⟨gY, 2, none⟩ = some (.slice A0_2 l0_2.length c0_2) := (ai fM.out 2).trans rfl; have uW : w5.cell? ⟨gY, 3, none⟩ = some (.slice A0_3 l0_3.length c0_3) := (ai fM.out 3).trans rfl; have rP := aj fM.out 0; have rO := aj fM.out 1; have uS := aj fM.out 2; have uR := aj fM.out 3) | ((with_reducible refine az (f := 62) rfl ?_); refine bI (some 8) rfl rfl Tryz.func62 (by kernel_rfl) rfl #[.slice A0_2 l0_2.length c0_2, .int .i64 a1] rfl (by (try simp only [List.map_toArray, List.map_cons, List.map_nil]); first | done | rfl | (simp only [List.length_drop, List.length_take]; rfl)) ?_; (with_reducible refine (dM.calls _ _ l0_2 a1 t389 _ ?side1 ?side2 A3.out).mono ?_); (case side1 => repeat (first | exact (Kd.ax cy.out HB.out) | (with_reducible refine Kd.aX ?_ _) | (with_reducible refine Kd.aW ?_ _) | (with_reducible refine Kd.bh ?_))); (case side2 => exact cD.out); rintro e w' ⟨rfl, ⟨nd, rfl⟩⟩; refine ⟨_, rfl, ?_⟩))
  go_ret
  exact ⟨by first | rfl | (simp [av, au] <;> rfl) | (simp [*, av, au] <;> rfl), by repeat (first | (with_reducible first | exact HB.out | apply ag | apply af | apply ah | refine ak ?_ qf.out) | exact HB.out)⟩
 ·rw [if_neg c4] at H
  have c4b0 : decide (t389 < 0) = false := decide_eq_false c4
  clear c4
  replace H := Option.bind_eq_some_iff.mp H
  obtain ⟨t390, A70, H⟩ := H
  replace H : (if t390 < 0 then (some (-1)) else (some t390)) = some r := H
  have A7 := aa.mk A70
  clear A70
  by_cases c8 : t390 < 0
  ·rw [if_pos c8] at H
   have c8b0 : decide (t390 < 0) = true := decide_eq_true c8
   clear c8
   obtain rfl := Option.some.inj H
   go_enter Tryz.func33, Tryz.ntmps33
   go_wp2_with (first | ((with_reducible refine aV (N := 2) rfl ?_); refine aM ?hg (N := 2) ?hd (cs := #[.int .i64 a0_0, .int .i64 a0_1, .slice A0_2 l0_2.length c0_2, .slice A0_3 l0_3.length c0_3]) (t := 24) ?hr ?_; (case hd => rfl); (case hg => rfl); (case hr => first | (go_simp; done) | (go_simp; rfl)); intro gY hg w9 hbox hb; have n0_ := aa.mk (ar (by repeat (first | (with_reducible first | exact HB.out | apply ag | apply af | apply ah) | exact HB.out)) hb); have n1_ := aa.mk (hbox); have n2_ := aa.mk ((by rw [hg]; exact (aq (by repeat (first | (with_reducible first | exact HB.out | apply ag | apply af | apply ah) | exact HB.out))) : w.heap.size ≤ gY)); have n3_ := aa.mk ((by rw [hg]; exact (aq (by repeat (first | (with_reducible first | exact HB.out | apply ag | apply af | apply ah) | exact HB.out))) : w.heap.size ≤ gY)); clear HB; have HB := n0_; have fM := n1_; have Db := n2_; have qf := n3_; clear n0_ n1_ n2_ n3_; clear hb hbox hg; have jV : w9.cell? ⟨gY, 0, none⟩ = some (.int .i64 a0_0) := (ai fM.out 0).trans rfl; have jU : w9.cell? ⟨gY, 1, none⟩ = some (.int .i64 a0_1) := (ai fM.out 1).trans rfl; have jT : w9.cell? ⟨gY, 2, none⟩ = some (.slice A0_2 l0_2.length c0_2) := (ai fM.out 2).trans rfl; have jS : w9.cell? ⟨gY, 3, none⟩ = some (.slice A0_3 l0_3.length c0_3) := (ai fM.out 3).trans rfl; have jR := aj fM.out 0; have jQ := aj fM.out 1; have jP := aj fM.out 2; have jO := aj fM.out 3) | ((with_reducible refine az (f := 62) rfl ?_); refine bI (some 8) rfl rfl Tryz.func62 (by kernel_rfl) rfl #[.slice A0_2 l0_2.length c0_2, .int .i64 a1] rfl (by (try simp only [List.map_toArray, List.map_cons, List.map_nil]); first | done | rfl | (simp only [List.length_drop, List.length_take]; rfl)) ?_; (with_reducible refine (dM.calls _ _ l0_2 a1 t389 _ ?side1 ?side2 A3.out).mono ?_); (case side1 => repeat (first | exact (Kd.ax cy.out HB.out) | (with_reducible refine Kd.aX ?_ _) | (with_reducible refine Kd.aW ?_ _) | (with_reducible refine Kd.bh ?_))); (case side2 => exact cD.out); rintro e w' ⟨rfl, ⟨nd, rfl⟩⟩; refine ⟨_, rfl, ?_⟩) | ((with_reducible refine az (f := 62) rfl ?_); refine bI (some 14) rfl rfl Tryz.func62 (by kernel_rfl) rfl #[.slice A0_3 l0_3.length c0_3, .int .i64 t389] rfl (by (try simp only [List.map_toArray, List.map_cons, List.map_nil]); first | done | rfl | (simp only [List.length_drop, List.length_take]; rfl)) ?_; (with_reducible refine (dM.calls _ _ l0_3 t389 t390 _ ?side1 ?side2 A7.out).mono ?_); (case side1 => repeat (first | exact (Kd.ax cF.out (by repeat (first | (with_reducible first | exact HB.out | apply ag | apply af | apply ah | refine ak ?_ qf.out) | exact HB.out))) | (with_reducible refine Kd.aX ?_ _) | (with_reducible refine Kd.aW ?_ _) | (with_reducible refine Kd.bh ?_))); (case side2 => exact cK.out); rintro e w' ⟨rfl, ⟨nd, rfl⟩⟩; refine ⟨_, rfl, ?_⟩))
   go_ret
   exact ⟨by first | rfl | (simp [av, au] <;> rfl) | (simp [*, av, au] <;> rfl), by repeat (first | (with_reducible first | exact HB.out | apply ag | apply af | apply ah | refine ak ?_ qf.out) | exact HB.out)⟩
  ·rw [if_neg c8] at H
   have c8b0 : decide (t390 < 0) = false := decide_eq_false c8
   clear c8
   obtain rfl := Option.some.inj H
   go_enter Tryz.func33, Tryz.ntmps33
   go_wp2_with (first | ((with_reducible refine aV (N := 2) rfl ?_); refine aM ?hg (N := 2) ?hd (cs := #[.int .i64 a0_0, .int .i64 a0_1, .slice A0_2 l0_2.length c0_2, .slice A0_3 l0_3.length c0_3]) (t := 24) ?hr ?_; (case hd => rfl); (case hg => rfl); (case hr => first | (go_simp; done) | (go_simp; rfl)); intro gY hg w11 hbox hb; have n0_ := aa.mk (ar (by repeat (first | (with_reducible first | exact HB.out | apply ag | apply af | apply ah) | exact HB.out)) hb); have n1_ := aa.mk (hbox); have n2_ := aa.mk ((by rw [hg]; exact (aq (by repeat (first | (with_reducible first | exact HB.out | apply ag | apply af | apply ah) | exact HB.out))) : w.heap.size ≤ gY)); have n3_ := aa.mk ((by rw [hg]; exact (aq (by repeat (first | (with_reducible first | exact HB.out | apply ag | apply af | apply ah) | exact HB.out))) : w.heap.size ≤ gY)); clear HB; have HB := n0_; have fM := n1_; have Db := n2_; have qf := n3_; clear n0_ n1_ n2_ n3_; clear hb hbox hg; have iQ : w11.cell? ⟨gY, 0, none⟩ = some (.int .i64 a0_0) := (ai fM.out 0).trans rfl; have iP : w11.cell? ⟨gY, 1, none⟩ = some (.int .i64 a0_1) := (ai fM.out 1).trans rfl; have iM : w11.cell? ⟨gY, 2, none⟩ = some (.slice A0_2 l0_2.length c0_2) := (ai fM.out 2).trans rfl; have iL : w11.cell? ⟨gY, 3, none⟩ = some (.slice A0_3 l0_3.length c0_3) := (ai fM.out 3).trans rfl; have iK := aj fM.out 0; have iJ := aj fM.out 1; have iI := aj fM.out 2; have iH := aj fM.out 3) | ((with_reducible refine az (f := 62) rfl ?_); refine bI (some 8) rfl rfl Tryz.func62 (by kernel_rfl) rfl #[.slice A0_2 l0_2.length c0_2, .int .i64 a1] rfl (by (try simp only [List.map_toArray, List.map_cons, List.map_nil]); first | done | rfl | (simp only [List.length_drop, List.length_take]; rfl)) ?_; (with_reducible refine (dM.calls _ _ l0_2 a1 t389 _ ?side1 ?side2 A3.out).mono ?_); (case side1 => repeat (first | exact (Kd.ax cy.out HB.out) | (with_reducible refine Kd.aX ?_ _) | (with_reducible refine Kd.aW ?_ _) | (with_reducible refine Kd.bh ?_))); (case side2 => exact cD.out); rintro e w' ⟨rfl, ⟨nd, rfl⟩⟩; refine ⟨_, rfl, ?_⟩) | ((with_reducible refine az (f := 62) rfl ?_); refine bI (some 14) rfl rfl Tryz.func62 (by kernel_rfl) rfl #[.slice A0_3 l0_3.length c0_3, .int .i64 t389] rfl (by (try simp only [List.map_toArray, List.map_cons, List.map_nil]); first | done | rfl | (simp only [List.length_drop, List.length_take]; rfl)) ?_; (with_reducible refine (dM.calls _ _ l0_3 t389 t390 _ ?side1 ?side2 A7.out).mono ?_); (case side1 => repeat (first | exact (Kd.ax cF.out (by repeat (first | (with_reducible first | exact HB.out | apply ag | apply af | apply ah | refine ak ?_ qf.out) | exact HB.out))) | (with_reducible refine Kd.aX ?_ _) | (with_reducible refine Kd.aW ?_ _) | (with_reducible refine Kd.bh ?_))); (case side2 => exact cK.out); rintro e w' ⟨rfl, ⟨nd, rfl⟩⟩; refine ⟨_, rfl, ?_⟩))
   go_ret
   exact ⟨by first | rfl | (simp [av, au] <;> rfl) | (simp [*, av, au] <;> rfl), by repeat (first | (with_reducible first | exact HB.out | apply ag | apply af | apply ah | refine ak ?_ qf.out) | exact HB.out)⟩
end Go.Proofs.YtmjlmloomkodpaaGreatDoor.PA
namespace Go.Proofs.YtmjlmloomkodpaaGreatDoor.PA
open Go.RowKit Go.Proofs.ae.aw Go.Proofs.ae.aJ Go.Proofs.ae.aN
attribute [local go_sem] bo bm bC bB a6 aZ bn bj
set_option linter.unusedVariables false
set_option linter.unusedSimpArgs false
def eJ.f (a0_0 : Int) (a0_1 : Int) (l0_2 : List Int) (l0_3 : List Int) (a0_4 : Int) (a0_5 : Bool) (a0_6 : Int) (a1 : Int) : Option (Int) := (fj.f a0_0 a0_1 l0_2 l0_3 a1).bind fun t392 => (if t392 < 0 then (some (-1)) else (some t392))
set_option maxHeartbeats 8000000 in
set_option maxRecDepth 100000 in
theorem eJ.calls (a0_0 : Int) (a0_1 : Int) (A0_2 : Option Addr) (c0_2 : Nat) (l0_2 : List Int) (A0_3 : Option Addr) (c0_3 : Nat) (l0_3 : List Int) (a0_4 : Int) (a0_5 : Bool) (a0_6 : Int) (a1 : Int) (r : Int) (w : World) (ca : Kd.C (Kd.int .i64) w A0_2 l0_2.length l0_2) (bX : l0_2.length ≤ c0_2) (b0 : Kd.C (Kd.int .i64) w A0_3 l0_3.length l0_3) (bW : l0_3.length ≤ c0_3) (h : eJ.f a0_0 a0_1 l0_2 l0_3 a0_4 a0_5 a0_6 a1 = some r) :
  Calls Tryz.prog 9 #[.agg #[.int .i64 a0_0, .int .i64 a0_1, .slice A0_2 l0_2.length c0_2, .slice A0_3 l0_3.length c0_3, .int .i64 a0_4, .bool a0_5, .int .i64 a0_6], .int .i64 a1] w fun e w' => e = .returned (.int .i64 r) ∧ Below w.heap.size w w' := by
 have hu26 := Tryz.underlying26
 have hu24 := Tryz.underlying24
 have cy := aa.mk ca
 have cD := aa.mk bX
 clear ca bX
 have cF := aa.mk b0
 have cK := aa.mk bW
 clear b0 bW
 have HB := aa.mk (Below.refl w.heap.size w)
 have H : ((fj.f a0_0 a0_1 l0_2 l0_3 a1).bind fun t392 => (if t392 < 0 then (some (-1)) else (some t392))) = some r := h
 clear h
 replace H := Option.bind_eq_some_iff.mp H
 obtain ⟨t392, A30, H⟩ := H
 replace H : (if t392 < 0 then (some (-1)) else (some t392)) = some r := H
 have A3 := aa.mk A30
 clear A30
 by_cases c4 : t392 < 0
 ·rw [if_pos c4] at H
  have c4b0 : decide (t392 < 0) = true := decide_eq_true c4
  clear c4
  obtain rfl := Option.some.inj H
  go_enter Tryz.func9, Tryz.ntmps9
  go_wp2_with (first | ((with_reducible refine aV (N := 2) rfl ?_); refine aM ?hg (N := 2) ?hd (cs := #[.int .i64 a0_0, .int .i64 a0_1, .slice A0_2 l0_2.length c0_2, .slice A0_3 l0_3.length c0_3, .int .i64 a0_4, .bool a0_5, .int .i64 a0_6]) (t := 26) ?hr ?_; (case hd => rfl); (case hg => rfl); (case hr => first | (go_simp; done) | (go_simp; rfl)); intro gG hg w5 hbox hb; have n0_ := aa.mk (ar (by repeat (first | (with_reducible first | exact HB.out | apply ag | apply af | apply ah) | exact HB.out)) hb); have n1_ := aa.mk (hbox); have n2_ := aa.mk ((by rw [hg]; exact (aq (by repeat (first | (with_reducible first | exact HB.out | apply ag | apply af | apply ah) | exact HB.out))) : w.heap.size ≤ gG)); have n3_ := aa.mk ((by rw [hg]; exact (aq (by repeat (first | (with_reducible first | exact HB.out | apply ag | apply af | apply ah) | exact HB.out))) : w.heap.size ≤ gG)); clear HB; have HB := n0_; have eA := n1_; have F5 := n2_; have uj := n3_; clear n0_ n1_ n2_ n3_; clear hb hbox hg; have sk : w5.cell? ⟨gG, 0, none⟩ = some (.int .i64 a0_0) := (ai eA.out 0).trans rfl; have sj : w5.cell? ⟨gG, 1, none⟩ = some (.int .i64 a0_1) := (ai eA.out 1).trans rfl; have uX : w5.cell? ⟨gG, 2, none⟩ = some (.slice A0_2 l0_2.length c0_2) := (ai eA.out 2).trans rfl; have uW : w5.cell? ⟨gG, 3, none⟩ = some (.slice A0_3 l0_3.length c0_3) := (ai eA.out 3).trans rfl; have DD : w5.cell? ⟨gG, 4, none⟩ = some (.int .i64 a0_4) := (ai eA.out 4).trans rfl; have DC : w5.cell? ⟨gG, 5, none⟩ = some (.bool a0_5) := (ai eA.out 5).trans rfl; have DB : w5.cell? ⟨gG, 6, none⟩ = some (.int .i64 a0_6) := (ai eA.out 6).trans rfl; have rP := aj eA.out 0; have rO := aj eA.out 1; have uS := aj eA.out 2; have uR := aj eA.out 3; have Dx := aj eA.out 4; have Dw := aj eA.out 5; have Dv := aj eA.out 6) | ((with_reducible refine az (f := 33) rfl ?_); refine bI (some 8) rfl rfl Tryz.func33 (by kernel_rfl) rfl #[.agg #[.int .i64 a0_0, .int .i64 a0_1, .slice A0_2 l0_2.length c0_2, .slice A0_3 l0_3.length c0_3], .int .i64 a1] rfl (by (try simp only [List.map_toArray, List.map_cons, List.map_nil]); first | done | rfl | (simp only [List.length_drop, List.length_take]; rfl)) ?_; (with_reducible refine (fj.calls a0_0 a0_1 _ _ l0_2 _ _ l0_3 a1 t392 _ ?side1 ?side2 ?side3 ?side4 A3.out).mono ?_); (case side1 => repeat (first | exact (Kd.ax cy.out HB.out) | (with_reducible refine Kd.aX ?_ _) | (with_reducible refine Kd.aW ?_ _) | (with_reducible refine Kd.bh ?_))); (case side2 => exact cD.out); (case side3 => repeat (first | exact (Kd.ax cF.out HB.out) | (with_reducible refine Kd.aX ?_ _) | (with_reducible refine Kd.aW ?_ _) | (with_reducible refine Kd.bh ?_))); (case side4 => exact cK.out); rintro e w7 ⟨rfl, hb⟩; refine ⟨_, rfl, ?_⟩; have n0_ := aa.mk (aD (g := gG) (o := .cells #[.int .i64 a0_0, .int .i64 a0_1, .slice A0_2 l0_2.length c0_2, .slice A0_3 l0_3.length c0_3, .int .i64 a0_4, .bool a0_5, .int .i64 a0_6] 26 (0, 0)) (by (with_reducible repeat (first | refine al ?_ _ | refine ao ?_ | refine an ?_ _)); exact eA.out) hb); have n1_ := aa.mk (ar (by repeat (first | (with_reducible first | exact HB.out | apply ag | apply af | apply ah | refine ak ?_ uj.out) | exact HB.out)) hb); clear eA; clear HB; have eA := n0_; have HB := n1_; clear n0_ n1_; (try clear hb); (try clear hb2); (try clear hk); (try clear hi)))
  go_ret
  exact ⟨by first | rfl | (simp [av, au] <;> rfl) | (simp [*, av, au] <;> rfl), by repeat (first | (with_reducible first | exact HB.out | apply ag | apply af | apply ah | refine ak ?_ uj.out) | exact HB.out)⟩
 ·rw [if_neg c4] at H
  have c4b0 : decide (t392 < 0) = false := decide_eq_false c4
  clear c4
  obtain rfl := Option.some.inj H
  go_enter Tryz.func9, Tryz.ntmps9
  go_wp2_with (first | ((with_reducible refine aV (N := 2) rfl ?_); refine aM ?hg (N := 2) ?hd (cs := #[.int .i64 a0_0, .int .i64 a0_1, .slice A0_2 l0_2.length c0_2, .slice A0_3 l0_3.length c0_3, .int .i64 a0_4, .bool a0_5, .int .i64 a0_6]) (t := 26) ?hr ?_; (case hd => rfl); (case hg => rfl); (case hr => first | (go_simp; done) | (go_simp; rfl)); intro gG hg w8 hbox hb; have n0_ := aa.mk (ar (by repeat (first | (with_reducible first | exact HB.out | apply ag | apply af | apply ah) | exact HB.out)) hb); have n1_ := aa.mk (hbox); have n2_ := aa.mk ((by rw [hg]; exact (aq (by repeat (first | (with_reducible first | exact HB.out | apply ag | apply af | apply ah) | exact HB.out))) : w.heap.size ≤ gG)); have n3_ := aa.mk ((by rw [hg]; exact (aq (by repeat (first | (with_reducible first | exact HB.out | apply ag | apply af | apply ah) | exact HB.out))) : w.heap.size ≤ gG)); clear HB; have HB := n0_; have eA := n1_; have F5 := n2_; have uj := n3_; clear n0_ n1_ n2_ n3_; clear hb hbox hg; have gS : w8.cell? ⟨gG, 0, none⟩ = some (.int .i64 a0_0) := (ai eA.out 0).trans rfl; have gR : w8.cell? ⟨gG, 1, none⟩ = some (.int .i64 a0_1) := (ai eA.out 1).trans rfl; have iD : w8.cell? ⟨gG, 2, none⟩ = some (.slice A0_2 l0_2.length c0_2) := (ai eA.out 2).trans rfl; have iC : w8.cell? ⟨gG, 3, none⟩ = some (.slice A0_3 l0_3.length c0_3) := (ai eA.out 3).trans rfl; have si : w8.cell? ⟨gG, 4, none⟩ = some (.int .i64 a0_4) := (ai eA.out 4).trans rfl; have sh : w8.cell? ⟨gG, 5, none⟩ = some (.bool a0_5) := (ai eA.out 5).trans rfl; have uT : w8.cell? ⟨gG, 6, none⟩ = some (.int .i64 a0_6) := (ai eA.out 6).trans rfl; have gQ := aj eA.out 0; have gP := aj eA.out 1; have iB := aj eA.out 2; have iA := aj eA.out 3; have rN := aj eA.out 4; have rM := aj eA.out 5; have uO := aj eA.out 6) | ((with_reducible refine az (f := 33) rfl ?_); refine bI (some 8) rfl rfl Tryz.func33 (by kernel_rfl) rfl #[.agg #[.int .i64 a0_0, .int .i64 a0_1, .slice A0_2 l0_2.length c0_2, .slice A0_3 l0_3.length c0_3], .int .i64 a1] rfl (by (try simp only [List.map_toArray, List.map_cons, List.map_nil]); first | done | rfl | (simp only [List.length_drop, List.length_take]; rfl)) ?_; (with_reducible refine (fj.calls a0_0 a0_1 _ _ l0_2 _ _ l0_3 a1 t392 _ ?side1 ?side2 ?side3 ?side4 A3.out).mono ?_); (case side1 => repeat (first | exact (Kd.ax cy.out HB.out) | (with_reducible refine Kd.aX ?_ _) | (with_reducible refine Kd.aW ?_ _) | (with_reducible refine Kd.bh ?_))); (case side2 => exact cD.out); (case side3 => repeat (first | exact (Kd.ax cF.out HB.out) | (with_reducible refine Kd.aX ?_ _) | (with_reducible refine Kd.aW ?_ _) | (with_reducible refine Kd.bh ?_))); (case side4 => exact cK.out); rintro e w10 ⟨rfl, hb⟩; refine ⟨_, rfl, ?_⟩; have n0_ := aa.mk (aD (g := gG) (o := .cells #[.int .i64 a0_0, .int .i64 a0_1, .slice A0_2 l0_2.length c0_2, .slice A0_3 l0_3.length c0_3, .int .i64 a0_4, .bool a0_5, .int .i64 a0_6] 26 (0, 0)) (by (with_reducible repeat (first | refine al ?_ _ | refine ao ?_ | refine an ?_ _)); exact eA.out) hb); have n1_ := aa.mk (ar (by repeat (first | (with_reducible first | exact HB.out | apply ag | apply af | apply ah | refine ak ?_ uj.out) | exact HB.out)) hb); clear eA; clear HB; have eA := n0_; have HB := n1_; clear n0_ n1_; (try clear hb); (try clear hb2); (try clear hk); (try clear hi)))
  go_ret
  exact ⟨by first | rfl | (simp [av, au] <;> rfl) | (simp [*, av, au] <;> rfl), by repeat (first | (with_reducible first | exact HB.out | apply ag | apply af | apply ah | refine ak ?_ uj.out) | exact HB.out)⟩
end Go.Proofs.YtmjlmloomkodpaaGreatDoor.PA
namespace Go.Proofs.YtmjlmloomkodpaaGreatDoor.PA
open Go.RowKit Go.Proofs.ae.aw Go.Proofs.ae.aJ Go.Proofs.ae.aN
attribute [local go_sem] bo bm bC bB a6 aZ bn bj
set_option linter.unusedVariables false
set_option linter.unusedSimpArgs false
def eK.f (k : Nat) (a0_0 : Int) (a0_1 : Int) (l0_2 : List Int) (l0_3 : List Int) (a1_0 : Int) (a1_1 : Int) (l1_2 : List Int) (l1_3 : List Int) : Option (Bool) := if a0_0 = a1_0 then (if a0_1 = a1_1 then ((bP.f k l0_2 l1_2).bind fun t397 => (if t397 = true then ((bP.f k l0_3 l1_3).bind fun t398 => (if t398 = true then (some true) else (some false))) else (some false))) else (some false)) else (some false)
set_option maxHeartbeats 8000000 in
set_option maxRecDepth 100000 in
theorem eK.calls (k : Nat) (a0_0 : Int) (a0_1 : Int) (A0_2 : Option Addr) (c0_2 : Nat) (l0_2 : List Int) (A0_3 : Option Addr) (c0_3 : Nat) (l0_3 : List Int) (a1_0 : Int) (a1_1 : Int) (A1_2 : Option Addr) (c1_2 : Nat) (l1_2 : List Int) (A1_3 : Option Addr) (c1_3 : Nat) (l1_3 : List Int) (r : Bool) (w : World) (ca : Kd.C (Kd.int .i64) w A0_2 l0_2.length l0_2) (bX : l0_2.length ≤ c0_2) (b0 : Kd.C (Kd.int .i64) w A0_3 l0_3.length l0_3) (bW : l0_3.length ≤ c0_3) (tR : Kd.C (Kd.int .i64) w A1_2 l1_2.length l1_2) (wV : l1_2.length ≤ c1_2) (tQ : Kd.C (Kd.int .i64) w A1_3 l1_3.length l1_3) (wU : l1_3.length ≤ c1_3) (h : eK.f k a0_0 a0_1 l0_2 l0_3 a1_0 a1_1 l1_2 l1_3 = some r) :
  Calls Tryz.prog 13 #[.agg #[.int .i64 a0_0, .int .i64 a0_1, .slice A0_2 l0_2.length c0_2, .slice A0_3 l0_3.length c0_3], .agg #[.int .i64 a1_0, .int .i64 a1_1, .slice A1_2 l1_2.length c1_2, .slice A1_3 l1_3.length c1_3]] w fun e w' => e = .returned (.bool r) ∧ Below w.heap.size w w' := by
 have hu28 := Tryz.underlying28
 have cy := aa.mk ca
 have cD := aa.mk bX
 clear ca bX
 have cF := aa.mk b0
 have cK := aa.mk bW
 clear b0 bW
 have zN := aa.mk tR
 have zS := aa.mk wV
 clear tR wV
 have CV := aa.mk tQ
 have C8 := aa.mk wU
 clear tQ wU
 have HB := aa.mk (Below.refl w.heap.size w)
 have H : (if a0_0 = a1_0 then (if a0_1 = a1_1 then ((bP.f k l0_2 l1_2).bind fun t397 => (if t397 = true then ((bP.f k l0_3 l1_3).bind fun t398 => (if t398 = true then (some true) else (some false))) else (some false))) else (some false)) else (some false)) = some r := h
 clear h
 by_cases c3 : a0_0 = a1_0
 ·rw [if_pos c3] at H
  have c3b0 : (a0_0 == a1_0) = true := beq_iff_eq.mpr c3
  have c3b1 : (a0_0 != a1_0) = false := bne_eq_false_iff_eq.mpr c3
  clear c3
  by_cases c4 : a0_1 = a1_1
  ·rw [if_pos c4] at H
   have c4b0 : (a0_1 == a1_1) = true := beq_iff_eq.mpr c4
   have c4b1 : (a0_1 != a1_1) = false := bne_eq_false_iff_eq.mpr c4
   clear c4
   replace H := Option.bind_eq_some_iff.mp H
   obtain ⟨t397, A50, H⟩ := H
   replace H : (if t397 = true then ((bP.f k l0_3 l1_3).bind fun t398 => (if t398 = true then (some true) else (some false))) else (some false)) = some r := H
   have A5 := aa.mk A50
   clear A50
   by_cases c6 : t397 = true
   ·subst c6
    have H1 : ((bP.f k l0_3 l1_3).bind fun t398 => (if t398 = true then (some true) else (some false))) = some r := by rw [if_pos rfl] at H; exact H
    clear H
    have H := H1
    clear H1
    replace H := Option.bind_eq_some_iff.mp H
    obtain ⟨t398, A70, H⟩ := H
    replace H : (if t398 = true then (some true) else (some false)) = some r := H
    have A7 := aa.mk A70
    clear A70
    by_cases c8 : t398 = true
    ·subst c8
     have H1 : (some true) = some r := by rw [if_pos rfl] at H; exact H
     clear H
     have H := H1
     clear H1
     obtain rfl := Option.some.inj H
     go_enter Tryz.func13, Tryz.ntmps13
     go_wp2_with (first | ((with_reducible refine aV (N := 2) rfl ?_); refine aM ?hg (N := 2) ?hd (cs := #[.int .i64 a0_0, .int .i64 a0_1, .slice A0_2 l0_2.length c0_2, .slice A0_3 l0_3.length c0_3]) (t := 28) ?hr ?_; (case hd => rfl); (case hg => rfl); (case hr => first | (go_simp; done) | (go_simp; rfl)); intro da hg w9 hbox hb; have n0_ := aa.mk (ar (by repeat (first | (with_reducible first | exact HB.out | apply ag | apply af | apply ah) | exact HB.out)) hb); have n1_ := aa.mk (hbox); have n2_ := aa.mk ((by rw [hg]; exact (aq (by repeat (first | (with_reducible first | exact HB.out | apply ag | apply af | apply ah) | exact HB.out))) : w.heap.size ≤ da)); have n3_ := aa.mk ((by rw [hg]; exact (aq (by repeat (first | (with_reducible first | exact HB.out | apply ag | apply af | apply ah) | exact HB.out))) : w.heap.size ≤ da)); clear HB; have HB := n0_; have cJ := n1_; have xu := n2_; have fq := n3_; clear n0_ n1_ n2_ n3_; clear hb hbox hg) | ((with_reducible refine aV (N := 3) rfl ?_); refine aM ?hg (N := 3) ?hd (cs := #[.int .i64 a1_0, .int .i64 a1_1, .slice A1_2 l1_2.length c1_2, .slice A1_3 l1_3.length c1_3]) (t := 28) ?hr ?_; (case hd => rfl); (case hg => rfl); (case hr => first | (go_simp; done) | (go_simp; rfl)); intro dD hg w10 hbox hb; have n0_ := aa.mk (aD (g := da) (o := .cells #[.int .i64 a0_0, .int .i64 a0_1, .slice A0_2 l0_2.length c0_2, .slice A0_3 l0_3.length c0_3] 28 (0, 0)) (by (with_reducible repeat (first | refine al ?_ _ | refine ao ?_ | refine an ?_ _)); exact cJ.out) hb); have n1_ := aa.mk (ar (by repeat (first | (with_reducible first | exact HB.out | apply ag | apply af | apply ah | refine ak ?_ fq.out) | exact HB.out)) hb); have n2_ := aa.mk (hbox); have n3_ := aa.mk ((by rw [hg]; exact (aq (by repeat (first | (with_reducible first | exact HB.out | apply ag | apply af | apply ah | refine ak ?_ fq.out) | exact HB.out))) : w.heap.size ≤ dD)); have n4_ := aa.mk ((by rw [hg]; exact (aq (by repeat (first | (with_reducible first | exact HB.out | apply ag | apply af | apply ah | refine ak ?_ fq.out) | exact HB.out))) : w.heap.size ≤ dD)); have n5_ := aa.mk ((by rw [hg]; exact Nat.ne_of_lt (a7 (g := da) (o := .cells #[.int .i64 a0_0, .int .i64 a0_1, .slice A0_2 l0_2.length c0_2, .slice A0_3 l0_3.length c0_3] 28 (0, 0)) (by (with_reducible repeat (first | refine al ?_ _ | refine ao ?_ | refine an ?_ _)); exact cJ.out)) : da ≠ dD)); have n6_ := aa.mk ((by rw [hg]; exact Nat.ne_of_gt (a7 (g := da) (o := .cells #[.int .i64 a0_0, .int .i64 a0_1, .slice A0_2 l0_2.length c0_2, .slice A0_3 l0_3.length c0_3] 28 (0, 0)) (by (with_reducible repeat (first | refine al ?_ _ | refine ao ?_ | refine an ?_ _)); exact cJ.out)) : dD ≠ da)); clear cJ; clear HB; have cJ := n0_; have HB := n1_; have dF := n2_; have xt := n3_; have kt := n4_; have gz := n5_; have gx := n6_; clear n0_ n1_ n2_ n3_ n4_ n5_ n6_; clear hb hbox hg; have vI := gz.out; have vH := gx.out; have iQ : w10.cell? ⟨da, 0, none⟩ = some (.int .i64 a0_0) := (ai cJ.out 0).trans rfl; have iP : w10.cell? ⟨da, 1, none⟩ = some (.int .i64 a0_1) := (ai cJ.out 1).trans rfl; have iM : w10.cell? ⟨da, 2, none⟩ = some (.slice A0_2 l0_2.length c0_2) := (ai cJ.out 2).trans rfl; have iL : w10.cell? ⟨da, 3, none⟩ = some (.slice A0_3 l0_3.length c0_3) := (ai cJ.out 3).trans rfl; have iK := aj cJ.out 0; have iJ := aj cJ.out 1; have iI := aj cJ.out 2; have iH := aj cJ.out 3; have o6 : w10.cell? ⟨dD, 0, none⟩ = some (.int .i64 a1_0) := (ai dF.out 0).trans rfl; have o5 : w10.cell? ⟨dD, 1, none⟩ = some (.int .i64 a1_1) := (ai dF.out 1).trans rfl; have sG : w10.cell? ⟨dD, 2, none⟩ = some (.slice A1_2 l1_2.length c1_2) := (ai dF.out 2).trans rfl; have sF : w10.cell? ⟨dD, 3, none⟩ = some (.slice A1_3 l1_3.length c1_3) := (ai dF.out 3).trans rfl; have oY := aj dF.out 0; have oX := aj dF.out 1; have sb := aj dF.out 2; have sa := aj dF.out 3) | ((with_reducible refine az (f := 41) rfl ?_); refine bI (some 19) rfl rfl Tryz.func41 (by kernel_rfl) rfl #[.slice A0_2 l0_2.length c0_2, .slice A1_2 l1_2.length c1_2] rfl (by (try simp only [List.map_toArray, List.map_cons, List.map_nil]); first | done | rfl | (simp only [List.length_drop, List.length_take]; rfl)) ?_; (with_reducible refine (bP.calls k _ _ l0_2 _ _ l1_2 true _ ?side1 ?side2 ?side3 ?side4 A5.out).mono ?_); (case side1 => repeat (first | exact (Kd.ax cy.out HB.out) | (with_reducible refine Kd.aX ?_ _) | (with_reducible refine Kd.aW ?_ _) | (with_reducible refine Kd.bh ?_))); (case side2 => exact cD.out); (case side3 => repeat (first | exact (Kd.ax zN.out HB.out) | (with_reducible refine Kd.aX ?_ _) | (with_reducible refine Kd.aW ?_ _) | (with_reducible refine Kd.bh ?_))); (case side4 => exact zS.out); rintro e w' ⟨rfl, ⟨nd, rfl⟩⟩; refine ⟨_, rfl, ?_⟩) | ((with_reducible refine az (f := 41) rfl ?_); refine bI (some 25) rfl rfl Tryz.func41 (by kernel_rfl) rfl #[.slice A0_3 l0_3.length c0_3, .slice A1_3 l1_3.length c1_3] rfl (by (try simp only [List.map_toArray, List.map_cons, List.map_nil]); first | done | rfl | (simp only [List.length_drop, List.length_take]; rfl)) ?_; (with_reducible refine (bP.calls k _ _ l0_3 _ _ l1_3 true _ ?side1 ?side2 ?side3 ?side4 A7.out).mono ?_); (case side1 => repeat (first | exact (Kd.ax cF.out (by repeat (first | (with_reducible first | exact HB.out | apply ag | apply af | apply ah | refine ak ?_ fq.out | refine ak ?_ kt.out) | exact HB.out))) | (with_reducible refine Kd.aX ?_ _) | (with_reducible refine Kd.aW ?_ _) | (with_reducible refine Kd.bh ?_))); (case side2 => exact cK.out); (case side3 => repeat (first | exact (Kd.ax CV.out (by repeat (first | (with_reducible first | exact HB.out | apply ag | apply af | apply ah | refine ak ?_ fq.out | refine ak ?_ kt.out) | exact HB.out))) | (with_reducible refine Kd.aX ?_ _) | (with_reducible refine Kd.aW ?_ _) | (with_reducible refine Kd.bh ?_))); (case side4 => exact C8.out); rintro e w' ⟨rfl, ⟨nd, rfl⟩⟩; refine ⟨_, rfl, ?_⟩))
     go_ret
     exact ⟨by first | rfl | (simp [av, au] <;> rfl) | (simp [*, av, au] <;> rfl), by repeat (first | (with_reducible first | exact HB.out | apply ag | apply af | apply ah | refine ak ?_ fq.out | refine ak ?_ kt.out) | exact HB.out)⟩
    ·replace c8 := Bool.eq_false_iff.mpr c8
     subst c8
     have H1 : (some false) = some r := by rw [if_neg (show ¬ (false = true) by decide)] at H; exact H
     clear H
     have H := H1
     clear H1
     obtain rfl := Option.some.inj H
     go_enter Tryz.func13, Tryz.ntmps13
     go_wp2_with (first | ((with_reducible refine aV (N := 2) rfl ?_); refine aM ?hg (N := 2) ?hd (cs := #[.int .i64 a0_0, .int .i64 a0_1, .slice A0_2 l0_2.length c0_2, .slice A0_3 l0_3.length c0_3]) (t := 28) ?hr ?_; (case hd => rfl); (case hg => rfl); (case hr => first | (go_simp; done) | (go_simp; rfl)); intro da hg w14 hbox hb; have n0_ := aa.mk (ar (by repeat (first | (with_reducible first | exact HB.out | apply ag | apply af | apply ah) | exact HB.out)) hb); have n1_ := aa.mk (hbox); have n2_ := aa.mk ((by rw [hg]; exact (aq (by repeat (first | (with_reducible first | exact HB.out | apply ag | apply af | apply ah) | exact HB.out))) : w.heap.size ≤ da)); have n3_ := aa.mk ((by rw [hg]; exact (aq (by repeat (first | (with_reducible first | exact HB.out | apply ag | apply af | apply ah) | exact HB.out))) : w.heap.size ≤ da)); clear HB; have HB := n0_; have cJ := n1_; have xu := n2_; have fq := n3_; clear n0_ n1_ n2_ n3_; clear hb hbox hg) | ((with_reducible refine aV (N := 3) rfl ?_); refine aM ?hg (N := 3) ?hd (cs := #[.int .i64 a1_0, .int .i64 a1_1, .slice A1_2 l1_2.length c1_2, .slice A1_3 l1_3.length c1_3]) (t := 28) ?hr ?_; (case hd => rfl); (case hg => rfl); (case hr => first | (go_simp; done) | (go_simp; rfl)); intro dD hg w15 hbox hb; have n0_ := aa.mk (aD (g := da) (o := .cells #[.int .i64 a0_0, .int .i64 a0_1, .slice A0_2 l0_2.length c0_2, .slice A0_3 l0_3.length c0_3] 28 (0, 0)) (by (with_reducible repeat (first | refine al ?_ _ | refine ao ?_ | refine an ?_ _)); exact cJ.out) hb); have n1_ := aa.mk (ar (by repeat (first | (with_reducible first | exact HB.out | apply ag | apply af | apply ah | refine ak ?_ fq.out) | exact HB.out)) hb); have n2_ := aa.mk (hbox); have n3_ := aa.mk ((by rw [hg]; exact (aq (by repeat (first | (with_reducible first | exact HB.out | apply ag | apply af | apply ah | refine ak ?_ fq.out) | exact HB.out))) : w.heap.size ≤ dD)); have n4_ := aa.mk ((by rw [hg]; exact (aq (by repeat (first | (with_reducible first | exact HB.out | apply ag | apply af | apply ah | refine ak ?_ fq.out) | exact HB.out))) : w.heap.size ≤ dD)); have n5_ := aa.mk ((by rw [hg]; exact Nat.ne_of_lt (a7 (g := da) (o := .cells #[.int .i64 a0_0, .int .i64 a0_1, .slice A0_2 l0_2.length c0_2, .slice A0_3 l0_3.length c0_3] 28 (0, 0)) (by (with_reducible repeat (first | refine al ?_ _ | refine ao ?_ | refine an ?_ _)); exact cJ.out)) : da ≠ dD)); have n6_ := aa.mk ((by rw [hg]; exact Nat.ne_of_gt (a7 (g := da) (o := .cells #[.int .i64 a0_0, .int .i64 a0_1, .slice A0_2 l0_2.length c0_2, .slice A0_3 l0_3.length c0_3] 28 (0, 0)) (by (with_reducible repeat (first | refine al ?_ _ | refine ao ?_ | refine an ?_ _)); exact cJ.out)) : dD ≠ da)); clear cJ; clear HB; have cJ := n0_; have HB := n1_; have dF := n2_; have xt := n3_; have kt := n4_; have gz := n5_; have gx := n6_; clear n0_ n1_ n2_ n3_ n4_ n5_ n6_; clear hb hbox hg; have hnb16 := gz.out; have hnc16 := gx.out; have wP : w15.cell? ⟨da, 0, none⟩ = some (.int .i64 a0_0) := (ai cJ.out 0).trans rfl; have wO : w15.cell? ⟨da, 1, none⟩ = some (.int .i64 a0_1) := (ai cJ.out 1).trans rfl; have BX : w15.cell? ⟨da, 2, none⟩ = some (.slice A0_2 l0_2.length c0_2) := (ai cJ.out 2).trans rfl; have BV : w15.cell? ⟨da, 3, none⟩ = some (.slice A0_3 l0_3.length c0_3) := (ai cJ.out 3).trans rfl; have wh := aj cJ.out 0; have wg := aj cJ.out 1; have BB := aj cJ.out 2; have BA := aj cJ.out 3; have sA : w15.cell? ⟨dD, 0, none⟩ = some (.int .i64 a1_0) := (ai dF.out 0).trans rfl; have sy : w15.cell? ⟨dD, 1, none⟩ = some (.int .i64 a1_1) := (ai dF.out 1).trans rfl; have wN : w15.cell? ⟨dD, 2, none⟩ = some (.slice A1_2 l1_2.length c1_2) := (ai dF.out 2).trans rfl; have wM : w15.cell? ⟨dD, 3, none⟩ = some (.slice A1_3 l1_3.length c1_3) := (ai dF.out 3).trans rfl; have rX := aj dF.out 0; have rV := aj dF.out 1; have we := aj dF.out 2; have wb := aj dF.out 3) | ((with_reducible refine az (f := 41) rfl ?_); refine bI (some 19) rfl rfl Tryz.func41 (by kernel_rfl) rfl #[.slice A0_2 l0_2.length c0_2, .slice A1_2 l1_2.length c1_2] rfl (by (try simp only [List.map_toArray, List.map_cons, List.map_nil]); first | done | rfl | (simp only [List.length_drop, List.length_take]; rfl)) ?_; (with_reducible refine (bP.calls k _ _ l0_2 _ _ l1_2 true _ ?side1 ?side2 ?side3 ?side4 A5.out).mono ?_); (case side1 => repeat (first | exact (Kd.ax cy.out HB.out) | (with_reducible refine Kd.aX ?_ _) | (with_reducible refine Kd.aW ?_ _) | (with_reducible refine Kd.bh ?_))); (case side2 => exact cD.out); (case side3 => repeat (first | exact (Kd.ax zN.out HB.out) | (with_reducible refine Kd.aX ?_ _) | (with_reducible refine Kd.aW ?_ _) | (with_reducible refine Kd.bh ?_))); (case side4 => exact zS.out); rintro e w' ⟨rfl, ⟨nd, rfl⟩⟩; refine ⟨_, rfl, ?_⟩) | ((with_reducible refine az (f := 41) rfl ?_); refine bI (some 25) rfl rfl Tryz.func41 (by kernel_rfl) rfl #[.slice A0_3 l0_3.length c0_3, .slice A1_3 l1_3.length c1_3] rfl (by (try simp only [List.map_toArray, List.map_cons, List.map_nil]); first | done | rfl | (simp only [List.length_drop, List.length_take]; rfl)) ?_; (with_reducible refine (bP.calls k _ _ l0_3 _ _ l1_3 false _ ?side1 ?side2 ?side3 ?side4 A7.out).mono ?_); (case side1 => repeat (first | exact (Kd.ax cF.out (by repeat (first | (with_reducible first | exact HB.out | apply ag | apply af | apply ah | refine ak ?_ fq.out | refine ak ?_ kt.out) | exact HB.out))) | (with_reducible refine Kd.aX ?_ _) | (with_reducible refine Kd.aW ?_ _) | (with_reducible refine Kd.bh ?_))); (case side2 => exact cK.out); (case side3 => repeat (first | exact (Kd.ax CV.out (by repeat (first | (with_reducible first | exact HB.out | apply ag | apply af | apply ah | refine ak ?_ fq.out | refine ak ?_ kt.out) | exact HB.out))) | (with_reducible refine Kd.aX ?_ _) | (with_reducible refine Kd.aW ?_ _) | (with_reducible refine Kd.bh ?_))); (case side4 => exact C8.out); rintro e w' ⟨rfl, ⟨nd, rfl⟩⟩; refine ⟨_, rfl, ?_⟩))
     go_ret
     exact ⟨by first | rfl | (simp [av, au] <;> rfl) | (simp [*, av, au] <;> rfl), by repeat (first | (with_reducible first | exact HB.out | apply ag | apply af | apply ah | refine ak ?_ fq.out | refine ak ?_ kt.out) | exact HB.out)⟩
   ·replace c6 := Bool.eq_false_iff.mpr c6
    subst c6
    have H1 : (some false) = some r := by rw [if_neg (show ¬ (false = true) by decide)] at H; exact H
    clear H
    have H := H1
    clear H1
    obtain rfl := Option.some.inj H
    go_enter Tryz.func13, Tryz.ntmps13
    go_wp2_with (first | ((with_reducible refine aV (N := 2) rfl ?_); refine aM ?hg (N := 2) ?hd (cs := #[.int .i64 a0_0, .int .i64 a0_1, .slice A0_2 l0_2.length c0_2, .slice A0_3 l0_3.length c0_3]) (t := 28) ?hr ?_; (case hd => rfl); (case hg => rfl); (case hr => first | (go_simp; done) | (go_simp; rfl)); intro da hg w19 hbox hb; have n0_ := aa.mk (ar (by repeat (first | (with_reducible first | exact HB.out | apply ag | apply af | apply ah) | exact HB.out)) hb); have n1_ := aa.mk (hbox); have n2_ := aa.mk ((by rw [hg]; exact (aq (by repeat (first | (with_reducible first | exact HB.out | apply ag | apply af | apply ah) | exact HB.out))) : w.heap.size ≤ da)); have n3_ := aa.mk ((by rw [hg]; exact (aq (by repeat (first | (with_reducible first | exact HB.out | apply ag | apply af | apply ah) | exact HB.out))) : w.heap.size ≤ da)); clear HB; have HB := n0_; have cJ := n1_; have xu := n2_; have fq := n3_; clear n0_ n1_ n2_ n3_; clear hb hbox hg) | ((with_reducible refine aV (N := 3) rfl ?_); refine aM ?hg (N := 3) ?hd (cs := #[.int .i64 a1_0, .int .i64 a1_1, .slice A1_2 l1_2.length c1_2, .slice A1_3 l1_3.length c1_3]) (t := 28) ?hr ?_; (case hd => rfl); (case hg => rfl); (case hr => first | (go_simp; done) | (go_simp; rfl)); intro dD hg w20 hbox hb; have n0_ := aa.mk (aD (g := da) (o := .cells #[.int .i64 a0_0, .int .i64 a0_1, .slice A0_2 l0_2.length c0_2, .slice A0_3 l0_3.length c0_3] 28 (0, 0)) (by (with_reducible repeat (first | refine al ?_ _ | refine ao ?_ | refine an ?_ _)); exact cJ.out) hb); have n1_ := aa.mk (ar (by repeat (first | (with_reducible first | exact HB.out | apply ag | apply af | apply ah | refine ak ?_ fq.out) | exact HB.out)) hb); have n2_ := aa.mk (hbox); have n3_ := aa.mk ((by rw [hg]; exact (aq (by repeat (first | (with_reducible first | exact HB.out | apply ag | apply af | apply ah | refine ak ?_ fq.out) | exact HB.out))) : w.heap.size ≤ dD)); have n4_ := aa.mk ((by rw [hg]; exact (aq (by repeat (first | (with_reducible first | exact HB.out | apply ag | apply af | apply ah | refine ak ?_ fq.out) | exact HB.out))) : w.heap.size ≤ dD)); have n5_ := aa.mk ((by rw [hg]; exact Nat.ne_of_lt (a7 (g := da) (o := .cells #[.int .i64 a0_0, .int .i64 a0_1, .slice A0_2 l0_2.length c0_2, .slice A0_3 l0_3.length c0_3] 28 (0, 0)) (by (with_reducible repeat (first | refine al ?_ _ | refine ao ?_ | refine an ?_ _)); exact cJ.out)) : da ≠ dD)); have n6_ := aa.mk ((by rw [hg]; exact Nat.ne_of_gt (a7 (g := da) (o := .cells #[.int .i64 a0_0, .int .i64 a0_1, .slice A0_2 l0_2.length c0_2, .slice A0_3 l0_3.length c0_3] 28 (0, 0)) (by (with_reducible repeat (first | refine al ?_ _ | refine ao ?_ | refine an ?_ _)); exact cJ.out)) : dD ≠ da)); clear cJ; clear HB; have cJ := n0_; have HB := n1_; have dF := n2_; have xt := n3_; have kt := n4_; have gz := n5_; have gx := n6_; clear n0_ n1_ n2_ n3_ n4_ n5_ n6_; clear hb hbox hg; have Ez := gz.out; have Ew := gx.out; have wC : w20.cell? ⟨da, 0, none⟩ = some (.int .i64 a0_0) := (ai cJ.out 0).trans rfl; have wB : w20.cell? ⟨da, 1, none⟩ = some (.int .i64 a0_1) := (ai cJ.out 1).trans rfl; have wA : w20.cell? ⟨da, 2, none⟩ = some (.slice A0_2 l0_2.length c0_2) := (ai cJ.out 2).trans rfl; have wz : w20.cell? ⟨da, 3, none⟩ = some (.slice A0_3 l0_3.length c0_3) := (ai cJ.out 3).trans rfl; have vS := aj cJ.out 0; have vR := aj cJ.out 1; have vQ := aj cJ.out 2; have vP := aj cJ.out 3; have hcz23_0 : w20.cell? ⟨dD, 0, none⟩ = some (.int .i64 a1_0) := (ai dF.out 0).trans rfl; have hcz23_1 : w20.cell? ⟨dD, 1, none⟩ = some (.int .i64 a1_1) := (ai dF.out 1).trans rfl; have hcz23_2 : w20.cell? ⟨dD, 2, none⟩ = some (.slice A1_2 l1_2.length c1_2) := (ai dF.out 2).trans rfl; have hcz23_3 : w20.cell? ⟨dD, 3, none⟩ = some (.slice A1_3 l1_3.length c1_3) := (ai dF.out 3).trans rfl; have G1 := aj dF.out 0; have G0 := aj dF.out 1; have GZ := aj dF.out 2; have GY := aj dF.out 3) | ((with_reducible refine az (f := 41) rfl ?_); refine bI (some 19) rfl rfl Tryz.func41 (by kernel_rfl) rfl #[.slice A0_2 l0_2.length c0_2, .slice A1_2 l1_2.length c1_2] rfl (by (try simp only [List.map_toArray, List.map_cons, List.map_nil]); first | done | rfl | (simp only [List.length_drop, List.length_take]; rfl)) ?_; (with_reducible refine (bP.calls k _ _ l0_2 _ _ l1_2 false _ ?side1 ?side2 ?side3 ?side4 A5.out).mono ?_); (case side1 => repeat (first | exact (Kd.ax cy.out HB.out) | (with_reducible refine Kd.aX ?_ _) | (with_reducible refine Kd.aW ?_ _) | (with_reducible refine Kd.bh ?_))); (case side2 => exact cD.out); (case side3 => repeat (first | exact (Kd.ax zN.out HB.out) | (with_reducible refine Kd.aX ?_ _) | (with_reducible refine Kd.aW ?_ _) | (with_reducible refine Kd.bh ?_))); (case side4 => exact zS.out); rintro e w' ⟨rfl, ⟨nd, rfl⟩⟩; refine ⟨_, rfl, ?_⟩))
    go_ret
    exact ⟨by first | rfl | (simp [av, au] <;> rfl) | (simp [*, av, au] <;> rfl), by repeat (first | (with_reducible first | exact HB.out | apply ag | apply af | apply ah | refine ak ?_ fq.out | refine ak ?_ kt.out) | exact HB.out)⟩
  ·rw [if_neg c4] at H
   have c4b0 : (a0_1 == a1_1) = false := beq_eq_false_iff_ne.mpr c4
   have c4b1 : (a0_1 != a1_1) = true := bne_iff_ne.mpr c4
   obtain rfl := Option.some.inj H
   go_enter Tryz.func13, Tryz.ntmps13
   go_wp2_with (first | ((with_reducible refine aV (N := 2) rfl ?_); refine aM ?hg (N := 2) ?hd (cs := #[.int .i64 a0_0, .int .i64 a0_1, .slice A0_2 l0_2.length c0_2, .slice A0_3 l0_3.length c0_3]) (t := 28) ?hr ?_; (case hd => rfl); (case hg => rfl); (case hr => first | (go_simp; done) | (go_simp; rfl)); intro da hg w24 hbox hb; have n0_ := aa.mk (ar (by repeat (first | (with_reducible first | exact HB.out | apply ag | apply af | apply ah) | exact HB.out)) hb); have n1_ := aa.mk (hbox); have n2_ := aa.mk ((by rw [hg]; exact (aq (by repeat (first | (with_reducible first | exact HB.out | apply ag | apply af | apply ah) | exact HB.out))) : w.heap.size ≤ da)); have n3_ := aa.mk ((by rw [hg]; exact (aq (by repeat (first | (with_reducible first | exact HB.out | apply ag | apply af | apply ah) | exact HB.out))) : w.heap.size ≤ da)); clear HB; have HB := n0_; have cJ := n1_; have xu := n2_; have fq := n3_; clear n0_ n1_ n2_ n3_; clear hb hbox hg) | ((with_reducible refine aV (N := 3) rfl ?_); refine aM ?hg (N := 3) ?hd (cs := #[.int .i64 a1_0, .int .i64 a1_1, .slice A1_2 l1_2.length c1_2, .slice A1_3 l1_3.length c1_3]) (t := 28) ?hr ?_; (case hd => rfl); (case hg => rfl); (case hr => first | (go_simp; done) | (go_simp; rfl)); intro dD hg w25 hbox hb; have n0_ := aa.mk (aD (g := da) (o := .cells #[.int .i64 a0_0, .int .i64 a0_1, .slice A0_2 l0_2.length c0_2, .slice A0_3 l0_3.length c0_3] 28 (0, 0)) (by (with_reducible repeat (first | refine al ?_ _ | refine ao ?_ | refine an ?_ _)); exact cJ.out) hb); have n1_ := aa.mk (ar (by repeat (first | (with_reducible first | exact HB.out | apply ag | apply af | apply ah | refine ak ?_ fq.out) | exact HB.out)) hb); have n2_ := aa.mk (hbox); have n3_ := aa.mk ((by rw [hg]; exact (aq (by repeat (first | (with_reducible first | exact HB.out | apply ag | apply af | apply ah | refine ak ?_ fq.out) | exact HB.out))) : w.heap.size ≤ dD)); have n4_ := aa.mk ((by rw [hg]; exact (aq (by repeat (first | (with_reducible first | exact HB.out | apply ag | apply af | apply ah | refine ak ?_ fq.out) | exact HB.out))) : w.heap.size ≤ dD)); have n5_ := aa.mk ((by rw [hg]; exact Nat.ne_of_lt (a7 (g := da) (o := .cells #[.int .i64 a0_0, .int .i64 a0_1, .slice A0_2 l0_2.length c0_2, .slice A0_3 l0_3.length c0_3] 28 (0, 0)) (by (with_reducible repeat (first | refine al ?_ _ | refine ao ?_ | refine an ?_ _)); exact cJ.out)) : da ≠ dD)); have n6_ := aa.mk ((by rw [hg]; exact Nat.ne_of_gt (a7 (g := da) (o := .cells #[.int .i64 a0_0, .int .i64 a0_1, .slice A0_2 l0_2.length c0_2, .slice A0_3 l0_3.length c0_3] 28 (0, 0)) (by (with_reducible repeat (first | refine al ?_ _ | refine ao ?_ | refine an ?_ _)); exact cJ.out)) : dD ≠ da)); clear cJ; clear HB; have cJ := n0_; have HB := n1_; have dF := n2_; have xt := n3_; have kt := n4_; have gz := n5_; have gx := n6_; clear n0_ n1_ n2_ n3_ n4_ n5_ n6_; clear hb hbox hg; have Ey := gz.out; have Eu := gx.out; have BQ : w25.cell? ⟨da, 0, none⟩ = some (.int .i64 a0_0) := (ai cJ.out 0).trans rfl; have BP : w25.cell? ⟨da, 1, none⟩ = some (.int .i64 a0_1) := (ai cJ.out 1).trans rfl; have BO : w25.cell? ⟨da, 2, none⟩ = some (.slice A0_2 l0_2.length c0_2) := (ai cJ.out 2).trans rfl; have BN : w25.cell? ⟨da, 3, none⟩ = some (.slice A0_3 l0_3.length c0_3) := (ai cJ.out 3).trans rfl; have Bu := aj cJ.out 0; have Bs := aj cJ.out 1; have Br := aj cJ.out 2; have Bq := aj cJ.out 3; have wy : w25.cell? ⟨dD, 0, none⟩ = some (.int .i64 a1_0) := (ai dF.out 0).trans rfl; have wx : w25.cell? ⟨dD, 1, none⟩ = some (.int .i64 a1_1) := (ai dF.out 1).trans rfl; have wv : w25.cell? ⟨dD, 2, none⟩ = some (.slice A1_2 l1_2.length c1_2) := (ai dF.out 2).trans rfl; have wu : w25.cell? ⟨dD, 3, none⟩ = some (.slice A1_3 l1_3.length c1_3) := (ai dF.out 3).trans rfl; have vO := aj dF.out 0; have vN := aj dF.out 1; have vM := aj dF.out 2; have vL := aj dF.out 3))
   go_ret
   exact ⟨by first | rfl | (simp [av, au] <;> rfl) | (simp [*, av, au] <;> rfl), by repeat (first | (with_reducible first | exact HB.out | apply ag | apply af | apply ah | refine ak ?_ fq.out | refine ak ?_ kt.out) | exact HB.out)⟩
 ·rw [if_neg c3] at H
  have c3b0 : (a0_0 == a1_0) = false := beq_eq_false_iff_ne.mpr c3
  have c3b1 : (a0_0 != a1_0) = true := bne_iff_ne.mpr c3
  obtain rfl := Option.some.inj H
  go_enter Tryz.func13, Tryz.ntmps13
  go_wp2_with (first | ((with_reducible refine aV (N := 2) rfl ?_); refine aM ?hg (N := 2) ?hd (cs := #[.int .i64 a0_0, .int .i64 a0_1, .slice A0_2 l0_2.length c0_2, .slice A0_3 l0_3.length c0_3]) (t := 28) ?hr ?_; (case hd => rfl); (case hg => rfl); (case hr => first | (go_simp; done) | (go_simp; rfl)); intro da hg w29 hbox hb; have n0_ := aa.mk (ar (by repeat (first | (with_reducible first | exact HB.out | apply ag | apply af | apply ah) | exact HB.out)) hb); have n1_ := aa.mk (hbox); have n2_ := aa.mk ((by rw [hg]; exact (aq (by repeat (first | (with_reducible first | exact HB.out | apply ag | apply af | apply ah) | exact HB.out))) : w.heap.size ≤ da)); have n3_ := aa.mk ((by rw [hg]; exact (aq (by repeat (first | (with_reducible first | exact HB.out | apply ag | apply af | apply ah) | exact HB.out))) : w.heap.size ≤ da)); clear HB; have HB := n0_; have cJ := n1_; have xu := n2_; have fq := n3_; clear n0_ n1_ n2_ n3_; clear hb hbox hg) | ((with_reducible refine aV (N := 3) rfl ?_); refine aM ?hg (N := 3) ?hd (cs := #[.int .i64 a1_0, .int .i64 a1_1, .slice A1_2 l1_2.length c1_2, .slice A1_3 l1_3.length c1_3]) (t := 28) ?hr ?_; (case hd => rfl); (case hg => rfl); (case hr => first | (go_simp; done) | (go_simp; rfl)); intro dD hg w30 hbox hb; have n0_ := aa.mk (aD (g := da) (o := .cells #[.int .i64 a0_0, .int .i64 a0_1, .slice A0_2 l0_2.length c0_2, .slice A0_3 l0_3.length c0_3] 28 (0, 0)) (by (with_reducible repeat (first | refine al ?_ _ | refine ao ?_ | refine an ?_ _)); exact cJ.out) hb); have n1_ := aa.mk (ar (by repeat (first | (with_reducible first | exact HB.out | apply ag | apply af | apply ah | refine ak ?_ fq.out) | exact HB.out)) hb); have n2_ := aa.mk (hbox); have n3_ := aa.mk ((by rw [hg]; exact (aq (by repeat (first | (with_reducible first | exact HB.out | apply ag | apply af | apply ah | refine ak ?_ fq.out) | exact HB.out))) : w.heap.size ≤ dD)); have n4_ := aa.mk ((by rw [hg]; exact (aq (by repeat (first | (with_reducible first | exact HB.out | apply ag | apply af | apply ah | refine ak ?_ fq.out) | exact HB.out))) : w.heap.size ≤ dD)); have n5_ := aa.mk ((by rw [hg]; exact Nat.ne_of_lt (a7 (g := da) (o := .cells #[.int .i64 a0_0, .int .i64 a0_1, .slice A0_2 l0_2.length c0_2, .slice A0_3 l0_3.length c0_3] 28 (0, 0)) (by (with_reducible repeat (first | refine al ?_ _ | refine ao ?_ | refine an ?_ _)); exact cJ.out)) : da ≠ dD)); have n6_ := aa.mk ((by rw [hg]; exact Nat.ne_of_gt (a7 (g := da) (o := .cells #[.int .i64 a0_0, .int .i64 a0_1, .slice A0_2 l0_2.length c0_2, .slice A0_3 l0_3.length c0_3] 28 (0, 0)) (by (with_reducible repeat (first | refine al ?_ _ | refine ao ?_ | refine an ?_ _)); exact cJ.out)) : dD ≠ da)); clear cJ; clear HB; have cJ := n0_; have HB := n1_; have dF := n2_; have xt := n3_; have kt := n4_; have gz := n5_; have gx := n6_; clear n0_ n1_ n2_ n3_ n4_ n5_ n6_; clear hb hbox hg; have hnb31 := gz.out; have hnc31 := gx.out; have hcz32_0 : w30.cell? ⟨da, 0, none⟩ = some (.int .i64 a0_0) := (ai cJ.out 0).trans rfl; have hcz32_1 : w30.cell? ⟨da, 1, none⟩ = some (.int .i64 a0_1) := (ai cJ.out 1).trans rfl; have hcz32_2 : w30.cell? ⟨da, 2, none⟩ = some (.slice A0_2 l0_2.length c0_2) := (ai cJ.out 2).trans rfl; have hcz32_3 : w30.cell? ⟨da, 3, none⟩ = some (.slice A0_3 l0_3.length c0_3) := (ai cJ.out 3).trans rfl; have GN := aj cJ.out 0; have GM := aj cJ.out 1; have GL := aj cJ.out 2; have GK := aj cJ.out 3; have hcz33_0 : w30.cell? ⟨dD, 0, none⟩ = some (.int .i64 a1_0) := (ai dF.out 0).trans rfl; have hcz33_1 : w30.cell? ⟨dD, 1, none⟩ = some (.int .i64 a1_1) := (ai dF.out 1).trans rfl; have Hc : w30.cell? ⟨dD, 2, none⟩ = some (.slice A1_2 l1_2.length c1_2) := (ai dF.out 2).trans rfl; have Hb : w30.cell? ⟨dD, 3, none⟩ = some (.slice A1_3 l1_3.length c1_3) := (ai dF.out 3).trans rfl; have GJ := aj dF.out 0; have GI := aj dF.out 1; have GH := aj dF.out 2; have GG := aj dF.out 3))
  go_ret
  exact ⟨by first | rfl | (simp [av, au] <;> rfl) | (simp [*, av, au] <;> rfl), by repeat (first | (with_reducible first | exact HB.out | apply ag | apply af | apply ah | refine ak ?_ fq.out | refine ak ?_ kt.out) | exact HB.out)⟩
end Go.Proofs.YtmjlmloomkodpaaGreatDoor.PA
namespace Go.Proofs.YtmjlmloomkodpaaGreatDoor.PA
open Go.RowKit Go.Proofs.ae.aw Go.Proofs.ae.aJ Go.Proofs.ae.aN
attribute [local go_sem] bo bm bC bB a6 aZ bn bj
set_option linter.unusedVariables false
set_option linter.unusedSimpArgs false
def ch.l0 : Nat → List Int → Int → Int → Option (Int × List Int)
 | 0, _, _, _ => none
 | k + 1, x0, x1, x5 => if x5 < (x0.length : Int) then (if 0 ≤ x5 then (ch.l0 k (x0.set (x5 : Int).toNat x1) (wrap64 (x1 + 1)) (wrap64 (x5 + 1))) else (none)) else (some (x1, x0))
def ch.f (k : Nat) (l0 : List Int) (a1 : Int) : Option (Int × List Int) := ch.l0 k l0 a1 0
set_option maxHeartbeats 8000000 in
set_option maxRecDepth 100000 in
theorem ch.calls (k : Nat) (P0_ : Nat → Prop) (u9000_ : Value) (l0 : List Int) (a1 : Int) (r1 : Int) (r2 : List Int) (w0 w : World) (hB : Below w0.heap.size w0 w) (ho0 : Kd.R (Kd.int .i64) 3 w w0.heap.size P0_ u9000_ l0) (h : ch.f k l0 a1 = some (r1, r2)) :
  Calls Tryz.prog 43 #[u9000_, .int .i64 a1] w fun e w' => e = .returned (.int .i64 r1) ∧ Kd.R (Kd.int .i64) 3 w' w0.heap.size (fun k_ => (P0_ k_ ∨ w.heap.size ≤ k_)) u9000_ r2 ∧ Below w0.heap.size w0 w' ∧ Kept w w' (fun k_ => P0_ k_) := by
 have HO0 := aa.mk (show Kd.R (Kd.int .i64) 3 w w0.heap.size (fun k_ => (P0_ k_ ∨ w.heap.size ≤ k_)) u9000_ l0 from Kd.bV ho0 (fun k_ hk => (.inl hk)))
 have HK := aa.mk (Kept.refl w (fun k_ => P0_ k_))
 have HW0 := aa.mk hB.size
 have HB := aa.mk hB
 clear hB
 have H : (ch.l0 k l0 a1 0) = some (r1, r2) := h
 clear h
 have H' := aa.mk H
 clear H
 go_enter Tryz.func43, Tryz.ntmps43
 go_wp2
 go_loopg [1, 5] k (fun kq v1 v5 w' => ∃ (x0_1 : List Int) (x1_1 : Int) (x5_1 : Int), v1 = .int .i64 x1_1 ∧ v5 = .int .i64 x5_1 ∧ aa (ch.l0 kq x0_1 x1_1 x5_1 = some (r1, r2)) ∧ aa (kq ≤ k) ∧ aa (Kd.R (Kd.int .i64) 3 w' w0.heap.size (fun k_ => (P0_ k_ ∨ w.heap.size ≤ k_)) u9000_ x0_1) ∧ aa (Kept w w' (fun k_ => P0_ k_)) ∧ aa (Below w0.heap.size w0 w'))
 case atStart => exact ⟨(l0), (a1), (0), (by first | rfl | (simp; done) | (simp [*]; done)), (by first | rfl | (simp; done) | (simp [*]; done)), H', ⟨Nat.le_refl _⟩, ⟨by (with_reducible repeat (first | apply Kd.aH | apply Kd.aG | apply Kd.aQ)); exact HO0.out⟩, ⟨by repeat (first | (with_reducible first | exact HK.out | apply Kept.alloc | apply Kept.drewN | apply Kept.drew) | exact HK.out)⟩, ⟨by repeat (first | (with_reducible first | exact HB.out | apply ag | apply af | apply ah) | exact HB.out)⟩⟩
 case round =>
  clear H'
  try clear p2
  obtain ⟨x0_1, x1_1, x5_1, rfl, rfl, HA, HK1, qd, HK, HB⟩ := hrel
  cases gk with
  | zero => exact absurd HA.out (by simp [ch.l0])
  | succ k1 =>
   have H := HA.out
   clear HA
   simp only [ch.l0] at H
   by_cases c3 : x5_1 < (x0_1.length : Int)
   ·rw [if_pos c3] at H
    have c3b0 : decide (x5_1 < (x0_1.length : Int)) = true := decide_eq_true c3
    clear c3
    by_cases c4 : 0 ≤ x5_1
    ·rw [if_pos c4] at H
     have c4b0 : decide (0 ≤ x5_1) = true := decide_eq_true c4
     clear c4
     obtain ⟨y403, hy403⟩ : ∃ y_ : List Int, y_ = (x0_1.set (x5_1 : Int).toNat x1_1) := ⟨_, rfl⟩
     replace H : (ch.l0 k1 y403 (wrap64 (x1_1 + 1)) (wrap64 (x5_1 + 1))) = some (r1, r2) := by first | (rw [hy403]; with_reducible exact H) | (have H2_ := (Option.bind_some _ _).symm.trans H; rw [hy403]; with_reducible exact H2_) | (have H2_ := (Option.bind_some _ _).symm.trans H; with_reducible exact H2_) | with_reducible exact H | (rw [hy403]; exact H) | exact H
     have Ny403 := aa.mk hy403
     clear hy403
     have H' := aa.mk H
     clear H
     obtain ⟨Ao6, co6, eo6⟩ := Kd.bE qd.out
     subst eo6
     have p5 : 0 ≤ (x5_1 : Int) := of_decide_eq_true (by first | (with_reducible assumption) | assumption)
     have q5 : (x5_1 : Int) < ((x0_1.length : Int) : Int) := of_decide_eq_true (by first | (with_reducible assumption) | assumption)
     obtain ⟨go5, co5, eo5, gb5, gl5, cl5, HG5⟩ := Kd.nP qd.out (by omega)
     (first | cases eo5 | (injection eo5 with ea_ en_ ec_; (first | subst ea_ | (injection ea_ with ea_; subst ea_)); subst ec_; clear en_))
     have GB5 := aa.mk gb5
     have GG5 := aa.mk HG5
     clear gb5 gl5 HG5
     have HMgo5 := aa.mk (show (P0_ go5 ∨ w.heap.size ≤ go5) from (qd.out.1 _ rfl))
     obtain ⟨hx5_0, hf5_0⟩ := Kd.np 0 qd.out (x5_1 : Int) p5 q5
     replace p5 := eq_true p5
     replace q5 := eq_true q5
     have HP7 := Kd.p7 qd.out (x5_1 : Int) x1_1
     go_wp2_with (first | ((with_reducible refine jD (t := 3) (p := 15) rfl ?_); refine iX (t := 3) (p := 15) (v := ?vo_w8) (w1 := (wr.setCell ⟨go5, (x5_1 : Int).toNat, none⟩ (.int .i64 x1_1))) ?hg ?ho ?hn ?hr ?_; (case ho => rfl); (case hg => rfl); (case hn => rfl); (case hr => first | (go_simp; done) | (go_simp; rfl)); intro w8 hw; have hg : wr.grownBy w8 (some go5) := (by rw [hw]; exact HP7.2); have hp_ : Kd.R (Kd.int .i64) 3 w8 w0.heap.size (fun k_ => (P0_ k_ ∨ w.heap.size ≤ k_)) (.slice (some ⟨go5, 0, none⟩) x0_1.length co6) y403 := (by rw [hw, Ny403.out]; exact HP7.1); clear HP7; have n0_ := aa.mk (hp_); have n1_ := aa.mk ((by rw [hw]; exact ak (HB.out) GB5.out : Below w0.heap.size w0 w8)); have n2_ := aa.mk (Kept.ka (S := (fun k_ => P0_ k_)) hg (by repeat (first | (with_reducible first | exact HK.out | apply Kept.alloc | apply Kept.drewN | apply Kept.drew) | exact HK.out)) (fun k_ e_ => (qd.out.1 k_ e_))); clear qd; clear HB; clear HK; have qd := n0_; have HB := n1_; have HK := n2_; clear n0_ n1_ n2_; clear hg hw hp_))
     go_roundg k1
     case measure => have := HK1.out; omega
     case rel => exact ⟨(y403), (wrap64 (x1_1 + 1)), (wrap64 (x5_1 + 1)), (by first | rfl | (simp; done) | (simp [*]; done)), (by first | rfl | (simp; done) | (simp [*]; done)), H', ⟨by have := HK1.out; omega⟩, ⟨by (with_reducible repeat (first | apply Kd.aH | apply Kd.aG | apply Kd.aQ)); exact qd.out⟩, ⟨by repeat (first | (with_reducible first | exact HK.out | apply Kept.alloc | apply Kept.drewN | apply Kept.drew) | exact HK.out)⟩, ⟨by repeat (first | (with_reducible first | exact HB.out | apply ag | apply af | apply ah) | exact HB.out)⟩⟩
    ·rw [if_neg c4] at H
     exact absurd H (by simp)
   ·rw [if_neg c3] at H
    have c3b0 : decide (x5_1 < (x0_1.length : Int)) = false := decide_eq_false c3
    clear c3
    simp only [Option.some.injEq, Prod.mk.injEq] at H
    obtain ⟨rfl, rfl⟩ := H
    obtain ⟨Ao9, co9, eo9⟩ := Kd.bE qd.out
    subst eo9
    go_wp2
    go_ret
    exact ⟨by first | rfl | (simp [av, au] <;> rfl) | (simp [*, av, au] <;> rfl), by (with_reducible repeat (first | apply Kd.aH | apply Kd.aG | apply Kd.aQ)); exact qd.out, by repeat (first | (with_reducible first | exact HB.out | apply ag | apply af | apply ah) | exact HB.out), by repeat (first | (with_reducible first | exact HK.out | apply Kept.alloc | apply Kept.drewN | apply Kept.drew) | exact HK.out)⟩
end Go.Proofs.YtmjlmloomkodpaaGreatDoor.PA
namespace Go.Proofs.YtmjlmloomkodpaaGreatDoor.PA
open Go.RowKit Go.Proofs.ae.aw Go.Proofs.ae.aJ Go.Proofs.ae.aN
attribute [local go_sem] bo bm bC bB a6 aZ bn bj
set_option linter.unusedVariables false
set_option linter.unusedSimpArgs false
def dJ.f (k : Nat) (a0_0 : Int) (a0_1 : Int) (l0_2 : List Int) (l0_3 : List Int) (a1 : Int) : Option (Int × List Int × List Int) := (ch.f k l0_2 a1).bind fun bt405 => ((ch.f k l0_3 bt405.1).bind fun bt407 => (some (bt407.1, bt405.2, bt407.2)))
set_option maxHeartbeats 8000000 in
set_option maxRecDepth 100000 in
theorem dJ.calls (k : Nat) (a0_0 : Int) (a0_1 : Int) (P0_2_ : Nat → Prop) (u9000_ : Value) (l0_2 : List Int) (P0_3_ : Nat → Prop) (u9001_ : Value) (l0_3 : List Int) (a1 : Int) (r1 : Int) (r2 : List Int) (r3 : List Int) (w0 w : World) (hB : Below w0.heap.size w0 w) (tT : Kd.R (Kd.int .i64) 3 w w0.heap.size P0_2_ u9000_ l0_2) (nC : ∀ k_, P0_2_ k_ → ¬ P0_3_ k_) (tS : Kd.R (Kd.int .i64) 3 w w0.heap.size P0_3_ u9001_ l0_3) (nB : ∀ k_, P0_3_ k_ → ¬ P0_2_ k_) (h : dJ.f k a0_0 a0_1 l0_2 l0_3 a1 = some (r1, r2, r3)) :
  Calls Tryz.prog 16 #[.agg #[.int .i64 a0_0, .int .i64 a0_1, u9000_, u9001_], .int .i64 a1] w fun e w' => e = .returned (.int .i64 r1) ∧ Kd.R (Kd.int .i64) 3 w' w0.heap.size (fun k_ => ((P0_2_ k_ ∨ P0_3_ k_) ∨ w.heap.size ≤ k_)) u9000_ r2 ∧ Kd.R (Kd.int .i64) 3 w' w0.heap.size (fun k_ => ((P0_2_ k_ ∨ P0_3_ k_) ∨ w.heap.size ≤ k_)) u9001_ r3 ∧ Below w0.heap.size w0 w' ∧ Kept w w' (fun k_ => P0_2_ k_ ∨ P0_3_ k_) := by
 have hu28 := Tryz.underlying28
 have fC := aa.mk (show Kd.R (Kd.int .i64) 3 w w0.heap.size (fun k_ => ((P0_2_ k_ ∨ P0_3_ k_) ∨ w.heap.size ≤ k_) ∧ some k_ ≠ (u9001_ : Value).ownBlock) u9000_ l0_2 from Kd.bV tT (fun k_ hk => ⟨(.inl (.inl hk)), fun e_ => nC k_ hk (tS.1 k_ e_.symm)⟩))
 have fB := aa.mk (show Kd.R (Kd.int .i64) 3 w w0.heap.size (fun k_ => ((P0_2_ k_ ∨ P0_3_ k_) ∨ w.heap.size ≤ k_) ∧ some k_ ≠ (u9000_ : Value).ownBlock) u9001_ l0_3 from Kd.bV tS (fun k_ hk => ⟨(.inl (.inr hk)), fun e_ => nB k_ hk (tT.1 k_ e_.symm)⟩))
 have HK := aa.mk (Kept.refl w (fun k_ => P0_2_ k_ ∨ P0_3_ k_))
 have HW0 := aa.mk hB.size
 have HB := aa.mk hB
 clear hB
 have H : ((ch.f k l0_2 a1).bind fun bt405 => ((ch.f k l0_3 bt405.1).bind fun bt407 => (some (bt407.1, bt405.2, bt407.2)))) = some (r1, r2, r3) := h
 clear h
 replace H := Option.bind_eq_some_iff.mp H
 obtain ⟨⟨t405, t406⟩, A30, H⟩ := H
 replace H : ((ch.f k l0_3 t405).bind fun bt407 => (some (bt407.1, t406, bt407.2))) = some (r1, r2, r3) := H
 have A3 := aa.mk A30
 clear A30
 replace H := Option.bind_eq_some_iff.mp H
 obtain ⟨⟨t407, t408⟩, A40, H⟩ := H
 replace H : (some (t407, t406, t408)) = some (r1, r2, r3) := H
 have A4 := aa.mk A40
 clear A40
 simp only [Option.some.injEq, Prod.mk.injEq] at H
 obtain ⟨rfl, rfl, rfl⟩ := H
 obtain ⟨Ao5, co5, eo5⟩ := Kd.bE fC.out
 subst eo5
 obtain ⟨Ao6, co6, eo6⟩ := Kd.bE fB.out
 subst eo6
 go_enter Tryz.func16, Tryz.ntmps16
 go_wp2_with (first | ((with_reducible refine aV (N := 2) rfl ?_); refine aM ?hg (N := 2) ?hd (cs := #[.int .i64 a0_0, .int .i64 a0_1, .slice Ao5 l0_2.length co5, .slice Ao6 l0_3.length co6]) (t := 28) ?hr ?_; (case hd => rfl); (case hg => rfl); (case hr => first | (go_simp; done) | (go_simp; rfl)); intro mj hg w7 hbox hb; have n0_ := aa.mk (Kd.cx (by (with_reducible repeat (first | apply Kd.aH | apply Kd.aG | apply Kd.aQ)); exact fC.out) hb); have n1_ := aa.mk (Kd.cx (by (with_reducible repeat (first | apply Kd.aH | apply Kd.aG | apply Kd.aQ)); exact fB.out) hb); have n2_ := aa.mk (Kept.below (S := (fun k_ => P0_2_ k_ ∨ P0_3_ k_)) (by repeat (first | (with_reducible first | exact HK.out | apply Kept.alloc | apply Kept.drewN | apply Kept.drew) | exact HK.out)) hb); have n3_ := aa.mk (ar (by repeat (first | (with_reducible first | exact HB.out | apply ag | apply af | apply ah) | exact HB.out)) hb); have n4_ := aa.mk (hbox); have n5_ := aa.mk ((by rw [hg]; exact (by first | exact HK.out.1 | exact (show Kept w _ (fun k_ => P0_2_ k_ ∨ P0_3_ k_) from by repeat (first | (with_reducible first | exact HK.out | apply Kept.alloc | apply Kept.drewN | apply Kept.drew) | exact HK.out)).1) : w.heap.size ≤ mj)); have n6_ := aa.mk ((by rw [hg]; exact (aq (by repeat (first | (with_reducible first | exact HB.out | apply ag | apply af | apply ah) | exact HB.out))) : w0.heap.size ≤ mj)); clear fC; clear fB; clear HK; clear HB; have fC := n0_; have fB := n1_; have HK := n2_; have HB := n3_; have gi := n4_; have zU := n5_; have zX := n6_; clear n0_ n1_ n2_ n3_ n4_ n5_ n6_; clear hb hbox hg; have ln : w7.cell? ⟨mj, 0, none⟩ = some (.int .i64 a0_0) := (ai gi.out 0).trans rfl; have ll : w7.cell? ⟨mj, 1, none⟩ = some (.int .i64 a0_1) := (ai gi.out 1).trans rfl; have mH : w7.cell? ⟨mj, 2, none⟩ = some (.slice Ao5 l0_2.length co5) := (ai gi.out 2).trans rfl; have mG : w7.cell? ⟨mj, 3, none⟩ = some (.slice Ao6 l0_3.length co6) := (ai gi.out 3).trans rfl; have k9 := aj gi.out 0; have k8 := aj gi.out 1; have mF := aj gi.out 2; have mE := aj gi.out 3) | ((with_reducible refine az (f := 43) rfl ?_); refine bI (some 8) rfl rfl Tryz.func43 (by kernel_rfl) rfl #[.slice Ao5 l0_2.length co5, .int .i64 a1] rfl (by (try simp only [List.map_toArray, List.map_cons, List.map_nil]); first | done | rfl | (simp only [List.length_drop, List.length_take]; rfl)) ?_; (with_reducible refine (ch.calls k (fun k_ => some k_ = (.slice Ao5 l0_2.length co5 : Value).ownBlock) (.slice Ao5 l0_2.length co5) l0_2 a1 t405 t406 w0 _ ?side1 ?side2 A3.out).mono ?_); (case side1 => repeat (first | (with_reducible first | exact HB.out | apply ag | apply af | apply ah | refine ak ?_ zX.out) | exact HB.out)); (case side2 => exact Kd.j3 rfl fC.out); rintro e w9 ⟨rfl, hy0, hb, hkp⟩; refine ⟨_, rfl, ?_⟩; have n0_ := aa.mk (Kd.sX rfl hy0 (fun k_ e_ => fC.out.1 k_ e_)); have n1_ := aa.mk (Kd.bV (ok' := fun k_ => ((P0_2_ k_ ∨ P0_3_ k_) ∨ w.heap.size ≤ k_) ∧ some k_ ≠ (.slice Ao5 l0_2.length co5 : Value).ownBlock) (Kd.xl (fB.out) hkp (fun k_ hk_ hs_ => (hk_.2) hs_)) (fun k_ hk_ => ⟨hk_.1.1, hk_.1.2⟩)); have n2_ := aa.mk (im (by (with_reducible repeat (first | refine al ?_ _ | refine ao ?_ | refine an ?_ _)); exact gi.out) hkp (fun hs_ => (fun e_ => (Kd.jF fC.out gi.out (by decide)) e_) hs_)); have n3_ := aa.mk (Kept.td (S := (fun k_ => P0_2_ k_ ∨ P0_3_ k_)) (by repeat (first | (with_reducible first | exact HK.out | apply Kept.alloc | apply Kept.drewN | apply Kept.drew | refine Kept.setCell ?_ (.inr zU.out) _) | exact HK.out)) hkp (fun k_ hs_ => (fun e_ => (fC.out.1 k_ e_.symm).1) hs_)); have n4_ := aa.mk (hb); clear fC; clear fB; clear gi; clear HK; clear HB; have fC := n0_; have fB := n1_; have gi := n2_; have HK := n3_; have HB := n4_; clear n0_ n1_ n2_ n3_ n4_; (try clear hb); (try clear hkp); (try clear hy0); have jV : w9.cell? ⟨mj, 0, none⟩ = some (.int .i64 a0_0) := (ai gi.out 0).trans rfl; have jU : w9.cell? ⟨mj, 1, none⟩ = some (.int .i64 a0_1) := (ai gi.out 1).trans rfl; have jT : w9.cell? ⟨mj, 2, none⟩ = some (.slice Ao5 l0_2.length co5) := (ai gi.out 2).trans rfl; have jS : w9.cell? ⟨mj, 3, none⟩ = some (.slice Ao6 l0_3.length co6) := (ai gi.out 3).trans rfl; have jR := aj gi.out 0; have jQ := aj gi.out 1; have jP := aj gi.out 2; have jO := aj gi.out 3) | ((with_reducible refine az (f := 43) rfl ?_); refine bI (some 12) rfl rfl Tryz.func43 (by kernel_rfl) rfl #[.slice Ao6 l0_3.length co6, .int .i64 t405] rfl (by (try simp only [List.map_toArray, List.map_cons, List.map_nil]); first | done | rfl | (simp only [List.length_drop, List.length_take]; rfl)) ?_; (with_reducible refine (ch.calls k (fun k_ => some k_ = (.slice Ao6 l0_3.length co6 : Value).ownBlock) (.slice Ao6 l0_3.length co6) l0_3 t405 t407 t408 w0 _ ?side1 ?side2 A4.out).mono ?_); (case side1 => repeat (first | (with_reducible first | exact HB.out | apply ag | apply af | apply ah | refine ak ?_ zX.out) | exact HB.out)); (case side2 => exact Kd.j3 rfl fB.out); rintro e w11 ⟨rfl, hy0, hb, hkp⟩; refine ⟨_, rfl, ?_⟩; have n0_ := aa.mk (Kd.bV (ok' := fun k_ => ((P0_2_ k_ ∨ P0_3_ k_) ∨ w.heap.size ≤ k_) ∧ some k_ ≠ (.slice Ao6 l0_3.length co6 : Value).ownBlock) (Kd.xl (fC.out) hkp (fun k_ hk_ hs_ => (hk_.2) hs_)) (fun k_ hk_ => ⟨hk_.1.1, hk_.1.2⟩)); have n1_ := aa.mk (Kd.sX rfl hy0 (fun k_ e_ => fB.out.1 k_ e_)); have n2_ := aa.mk (im (by (with_reducible repeat (first | refine al ?_ _ | refine ao ?_ | refine an ?_ _)); exact gi.out) hkp (fun hs_ => (fun e_ => (Kd.jF fB.out gi.out (by decide)) e_) hs_)); have n3_ := aa.mk (Kept.td (S := (fun k_ => P0_2_ k_ ∨ P0_3_ k_)) (by repeat (first | (with_reducible first | exact HK.out | apply Kept.alloc | apply Kept.drewN | apply Kept.drew | refine Kept.setCell ?_ (.inr zU.out) _) | exact HK.out)) hkp (fun k_ hs_ => (fun e_ => (fB.out.1 k_ e_.symm).1) hs_)); have n4_ := aa.mk (hb); clear fC; clear fB; clear gi; clear HK; clear HB; have fC := n0_; have fB := n1_; have gi := n2_; have HK := n3_; have HB := n4_; clear n0_ n1_ n2_ n3_ n4_; (try clear hb); (try clear hkp); (try clear hy0)))
 go_ret
 exact ⟨by first | rfl | (simp [av, au] <;> rfl) | (simp [*, av, au] <;> rfl), by (with_reducible repeat (first | apply Kd.aH | apply Kd.aG | apply Kd.aQ)); exact Kd.bV fC.out (fun _ hk => hk.1), by (with_reducible repeat (first | apply Kd.aH | apply Kd.aG | apply Kd.aQ)); exact Kd.bV fB.out (fun _ hk => hk.1), by repeat (first | (with_reducible first | exact HB.out | apply ag | apply af | apply ah | refine ak ?_ zX.out) | exact HB.out), by repeat (first | (with_reducible first | exact HK.out | apply Kept.alloc | apply Kept.drewN | apply Kept.drew | refine Kept.setCell ?_ (.inr zU.out) _) | exact HK.out)⟩
end Go.Proofs.YtmjlmloomkodpaaGreatDoor.PA
namespace Go.Proofs.YtmjlmloomkodpaaGreatDoor.PA
open Go.RowKit Go.Proofs.ae.aw Go.Proofs.ae.aJ Go.Proofs.ae.aN
attribute [local go_sem] bo bm bC bB a6 aZ bn bj
set_option linter.unusedVariables false
set_option linter.unusedSimpArgs false
def eY.f (k : Nat) (a0_0 : Int) (a0_1 : Int) (l0_2 : List Int) (l0_3 : List Int) (a0_4 : Int) (a0_5 : Bool) (a0_6 : Int) (a1 : Int) : Option (Int × List Int × List Int) := (dJ.f k a0_0 a0_1 l0_2 l0_3 a1).bind fun bt460 => (some (bt460.1, bt460.2.1, bt460.2.2))
set_option maxHeartbeats 8000000 in
set_option maxRecDepth 100000 in
theorem eY.calls (k : Nat) (a0_0 : Int) (a0_1 : Int) (P0_2_ : Nat → Prop) (u9000_ : Value) (l0_2 : List Int) (P0_3_ : Nat → Prop) (u9001_ : Value) (l0_3 : List Int) (a0_4 : Int) (a0_5 : Bool) (a0_6 : Int) (a1 : Int) (r1 : Int) (r2 : List Int) (r3 : List Int) (w0 w : World) (hB : Below w0.heap.size w0 w) (tT : Kd.R (Kd.int .i64) 3 w w0.heap.size P0_2_ u9000_ l0_2) (nC : ∀ k_, P0_2_ k_ → ¬ P0_3_ k_) (tS : Kd.R (Kd.int .i64) 3 w w0.heap.size P0_3_ u9001_ l0_3) (nB : ∀ k_, P0_3_ k_ → ¬ P0_2_ k_) (h : eY.f k a0_0 a0_1 l0_2 l0_3 a0_4 a0_5 a0_6 a1 = some (r1, r2, r3)) :
  Calls Tryz.prog 15 #[.agg #[.int .i64 a0_0, .int .i64 a0_1, u9000_, u9001_, .int .i64 a0_4, .bool a0_5, .int .i64 a0_6], .int .i64 a1] w fun e w' => e = .returned (.int .i64 r1) ∧ Kd.R (Kd.int .i64) 3 w' w0.heap.size (fun k_ => ((P0_2_ k_ ∨ P0_3_ k_) ∨ w.heap.size ≤ k_)) u9000_ r2 ∧ Kd.R (Kd.int .i64) 3 w' w0.heap.size (fun k_ => ((P0_2_ k_ ∨ P0_3_ k_) ∨ w.heap.size ≤ k_)) u9001_ r3 ∧ Below w0.heap.size w0 w' ∧ Kept w w' (fun k_ => P0_2_ k_ ∨ P0_3_ k_) := by
 have hu32 := Tryz.underlying32
 have hu28 := Tryz.underlying28
 have fC := aa.mk (show Kd.R (Kd.int .i64) 3 w w0.heap.size (fun k_ => ((P0_2_ k_ ∨ P0_3_ k_) ∨ w.heap.size ≤ k_) ∧ some k_ ≠ (u9001_ : Value).ownBlock) u9000_ l0_2 from Kd.bV tT (fun k_ hk => ⟨(.inl (.inl hk)), fun e_ => nC k_ hk (tS.1 k_ e_.symm)⟩))
 have fB := aa.mk (show Kd.R (Kd.int .i64) 3 w w0.heap.size (fun k_ => ((P0_2_ k_ ∨ P0_3_ k_) ∨ w.heap.size ≤ k_) ∧ some k_ ≠ (u9000_ : Value).ownBlock) u9001_ l0_3 from Kd.bV tS (fun k_ hk => ⟨(.inl (.inr hk)), fun e_ => nB k_ hk (tT.1 k_ e_.symm)⟩))
 have HK := aa.mk (Kept.refl w (fun k_ => P0_2_ k_ ∨ P0_3_ k_))
 have HW0 := aa.mk hB.size
 have HB := aa.mk hB
 clear hB
 have H : ((dJ.f k a0_0 a0_1 l0_2 l0_3 a1).bind fun bt460 => (some (bt460.1, bt460.2.1, bt460.2.2))) = some (r1, r2, r3) := h
 clear h
 replace H := Option.bind_eq_some_iff.mp H
 obtain ⟨⟨t460, t461, t462⟩, A30, H⟩ := H
 replace H : (some (t460, t461, t462)) = some (r1, r2, r3) := H
 have A3 := aa.mk A30
 clear A30
 simp only [Option.some.injEq, Prod.mk.injEq] at H
 obtain ⟨rfl, rfl, rfl⟩ := H
 obtain ⟨Ao4, co4, eo4⟩ := Kd.bE fC.out
 subst eo4
 obtain ⟨Ao5, co5, eo5⟩ := Kd.bE fB.out
 subst eo5
 go_enter Tryz.func15, Tryz.ntmps15
 go_wp2_with (first | ((with_reducible refine aV (N := 2) rfl ?_); refine aM ?hg (N := 2) ?hd (cs := #[.int .i64 a0_0, .int .i64 a0_1, .slice Ao4 l0_2.length co4, .slice Ao5 l0_3.length co5, .int .i64 a0_4, .bool a0_5, .int .i64 a0_6]) (t := 32) ?hr ?_; (case hd => rfl); (case hg => rfl); (case hr => first | (go_simp; done) | (go_simp; rfl)); intro nb hg w6 hbox hb; have n0_ := aa.mk (Kd.cx (by (with_reducible repeat (first | apply Kd.aH | apply Kd.aG | apply Kd.aQ)); exact fC.out) hb); have n1_ := aa.mk (Kd.cx (by (with_reducible repeat (first | apply Kd.aH | apply Kd.aG | apply Kd.aQ)); exact fB.out) hb); have n2_ := aa.mk (Kept.below (S := (fun k_ => P0_2_ k_ ∨ P0_3_ k_)) (by repeat (first | (with_reducible first | exact HK.out | apply Kept.alloc | apply Kept.drewN | apply Kept.drew) | exact HK.out)) hb); have n3_ := aa.mk (ar (by repeat (first | (with_reducible first | exact HB.out | apply ag | apply af | apply ah) | exact HB.out)) hb); have n4_ := aa.mk (hbox); have n5_ := aa.mk ((by rw [hg]; exact (by first | exact HK.out.1 | exact (show Kept w _ (fun k_ => P0_2_ k_ ∨ P0_3_ k_) from by repeat (first | (with_reducible first | exact HK.out | apply Kept.alloc | apply Kept.drewN | apply Kept.drew) | exact HK.out)).1) : w.heap.size ≤ nb)); have n6_ := aa.mk ((by rw [hg]; exact (aq (by repeat (first | (with_reducible first | exact HB.out | apply ag | apply af | apply ah) | exact HB.out))) : w0.heap.size ≤ nb)); clear fC; clear fB; clear HK; clear HB; have fC := n0_; have fB := n1_; have HK := n2_; have HB := n3_; have iv := n4_; have C9 := n5_; have De := n6_; clear n0_ n1_ n2_ n3_ n4_ n5_ n6_; clear hb hbox hg; have jA : w6.cell? ⟨nb, 0, none⟩ = some (.int .i64 a0_0) := (ai iv.out 0).trans rfl; have jz : w6.cell? ⟨nb, 1, none⟩ = some (.int .i64 a0_1) := (ai iv.out 1).trans rfl; have lr : w6.cell? ⟨nb, 2, none⟩ = some (.slice Ao4 l0_2.length co4) := (ai iv.out 2).trans rfl; have lq : w6.cell? ⟨nb, 3, none⟩ = some (.slice Ao5 l0_3.length co5) := (ai iv.out 3).trans rfl; have uV : w6.cell? ⟨nb, 4, none⟩ = some (.int .i64 a0_4) := (ai iv.out 4).trans rfl; have uU : w6.cell? ⟨nb, 5, none⟩ = some (.bool a0_5) := (ai iv.out 5).trans rfl; have zc : w6.cell? ⟨nb, 6, none⟩ = some (.int .i64 a0_6) := (ai iv.out 6).trans rfl; have jy := aj iv.out 0; have jx := aj iv.out 1; have lf := aj iv.out 2; have la := aj iv.out 3; have uQ := aj iv.out 4; have uP := aj iv.out 5; have zb := aj iv.out 6) | ((with_reducible refine az (f := 16) rfl ?_); refine bI (some 8) rfl rfl Tryz.func16 (by kernel_rfl) rfl #[.agg #[.int .i64 a0_0, .int .i64 a0_1, .slice Ao4 l0_2.length co4, .slice Ao5 l0_3.length co5], .int .i64 a1] rfl (by (try simp only [List.map_toArray, List.map_cons, List.map_nil]); first | done | rfl | (simp only [List.length_drop, List.length_take]; rfl)) ?_; (with_reducible refine (dJ.calls k a0_0 a0_1 (fun k_ => some k_ = (.slice Ao4 l0_2.length co4 : Value).ownBlock) (.slice Ao4 l0_2.length co4) l0_2 (fun k_ => some k_ = (.slice Ao5 l0_3.length co5 : Value).ownBlock) (.slice Ao5 l0_3.length co5) l0_3 a1 t460 t461 t462 w0 _ ?side1 ?side2 ?side3 ?side4 ?side5 A3.out).mono ?_); (case side1 => repeat (first | (with_reducible first | exact HB.out | apply ag | apply af | apply ah | refine ak ?_ De.out) | exact HB.out)); (case side2 => exact Kd.j3 rfl fC.out); (case side3 => exact fun k_ e_ => (fC.out.1 k_ e_.symm).2); (case side4 => exact Kd.j3 rfl fB.out); (case side5 => exact fun k_ e_ => (fB.out.1 k_ e_.symm).2); rintro e w8 ⟨rfl, hy0, hy1, hb, hkp⟩; refine ⟨_, rfl, ?_⟩; have n0_ := aa.mk (Kd.sX rfl hy0 (fun k_ e_ => fC.out.1 k_ e_)); have n1_ := aa.mk (Kd.sX rfl hy1 (fun k_ e_ => fB.out.1 k_ e_)); have n2_ := aa.mk (im (by (with_reducible repeat (first | refine al ?_ _ | refine ao ?_ | refine an ?_ _)); exact iv.out) hkp (fun hs_ => Or.elim hs_ (fun e_ => (fun e_ => (Kd.jF fC.out iv.out (by decide)) e_) e_) (fun e_ => (fun e_ => (Kd.jF fB.out iv.out (by decide)) e_) e_))); have n3_ := aa.mk (Kept.td (S := (fun k_ => P0_2_ k_ ∨ P0_3_ k_)) (by repeat (first | (with_reducible first | exact HK.out | apply Kept.alloc | apply Kept.drewN | apply Kept.drew | refine Kept.setCell ?_ (.inr C9.out) _) | exact HK.out)) hkp (fun k_ hs_ => Or.elim hs_ (fun e_ => (fun e_ => (fC.out.1 k_ e_.symm).1) e_) (fun e_ => (fun e_ => (fB.out.1 k_ e_.symm).1) e_))); have n4_ := aa.mk (hb); clear fC; clear fB; clear iv; clear HK; clear HB; have fC := n0_; have fB := n1_; have iv := n2_; have HK := n3_; have HB := n4_; clear n0_ n1_ n2_ n3_ n4_; (try clear hb); (try clear hkp); (try clear hy0); (try clear hy1)))
 go_ret
 exact ⟨by first | rfl | (simp [av, au] <;> rfl) | (simp [*, av, au] <;> rfl), by (with_reducible repeat (first | apply Kd.aH | apply Kd.aG | apply Kd.aQ)); exact Kd.bV fC.out (fun _ hk => hk.1), by (with_reducible repeat (first | apply Kd.aH | apply Kd.aG | apply Kd.aQ)); exact Kd.bV fB.out (fun _ hk => hk.1), by repeat (first | (with_reducible first | exact HB.out | apply ag | apply af | apply ah | refine ak ?_ De.out) | exact HB.out), by repeat (first | (with_reducible first | exact HK.out | apply Kept.alloc | apply Kept.drewN | apply Kept.drew | refine Kept.setCell ?_ (.inr C9.out) _) | exact HK.out)⟩
end Go.Proofs.YtmjlmloomkodpaaGreatDoor.PA
namespace Go.Proofs.YtmjlmloomkodpaaGreatDoor.PA
open Go.RowKit Go.Proofs.ae.aw Go.Proofs.ae.aJ Go.Proofs.ae.aN
attribute [local go_sem] bo bm bC bB a6 aZ bn bj
set_option linter.unusedVariables false
set_option linter.unusedSimpArgs false
def cf.l0 : Nat → List Int → Int → Int → Option (Int)
 | 0, _, _, _ => none
 | k + 1, x0, x1, x5 => if x5 < (x0.length : Int) then (if 0 ≤ x5 then (if (rd x0 x5) = x1 then (cf.l0 k x0 (wrap64 (x1 + 1)) (wrap64 (x5 + 1))) else (some (-1))) else (none)) else (some x1)
def cf.f (k : Nat) (l0 : List Int) (a1 : Int) : Option (Int) := cf.l0 k l0 a1 0
set_option maxHeartbeats 8000000 in
set_option maxRecDepth 100000 in
theorem cf.calls (k : Nat) (A0 : Option Addr) (c0 : Nat) (l0 : List Int) (a1 : Int) (r : Int) (w : World) (hr0 : Kd.C (Kd.int .i64) w A0 l0.length l0) (hc0 : l0.length ≤ c0) (h : cf.f k l0 a1 = some r) :
  Calls Tryz.prog 44 #[.slice A0 l0.length c0, .int .i64 a1] w fun e w' => e = .returned (.int .i64 r) ∧ aK w w' := by
 have HR0 := aa.mk hr0
 have HC0 := aa.mk hc0
 clear hr0 hc0
 have H : (cf.l0 k l0 a1 0) = some r := h
 clear h
 have H' := aa.mk H
 clear H
 go_enter Tryz.func44, Tryz.ntmps44
 go_wp2
 go_loopg [1, 5] k (fun kq v1 v5 w' => ∃ (x1_1 : Int) (x5_1 : Int), v1 = .int .i64 x1_1 ∧ v5 = .int .i64 x5_1 ∧ aa (cf.l0 kq l0 x1_1 x5_1 = some r) ∧ aa (kq ≤ k) ∧ aK w w')
 case atStart => exact ⟨(a1), (0), (by first | rfl | (simp; done) | (simp [*]; done)), (by first | rfl | (simp; done) | (simp [*]; done)), H', ⟨Nat.le_refl _⟩, by repeat (first | exact aK.refl _ | apply aK.step)⟩
 case round =>
  clear H'
  try clear p2
  obtain ⟨x1_1, x5_1, rfl, rfl, HA, HK1, ⟨m1, rfl⟩⟩ := hrel
  cases gk with
  | zero => exact absurd HA.out (by simp [cf.l0])
  | succ k1 =>
   have H := HA.out
   clear HA
   simp only [cf.l0] at H
   by_cases c3 : x5_1 < (l0.length : Int)
   ·rw [if_pos c3] at H
    have c3b0 : decide (x5_1 < (l0.length : Int)) = true := decide_eq_true c3
    clear c3
    by_cases c4 : 0 ≤ x5_1
    ·rw [if_pos c4] at H
     have c4b0 : decide (0 ≤ x5_1) = true := decide_eq_true c4
     clear c4
     by_cases c5 : (rd l0 x5_1) = x1_1
     ·rw [if_pos c5] at H
      have c5b0 : ((rd l0 x5_1) == x1_1) = true := beq_iff_eq.mpr c5
      have c5b1 : ((rd l0 x5_1) != x1_1) = false := bne_eq_false_iff_eq.mpr c5
      clear c5
      have H' := aa.mk H
      clear H
      have p399 : 0 ≤ (x5_1 : Int) := of_decide_eq_true (by first | (with_reducible assumption) | assumption)
      have q399 : x5_1 < (l0.length : Int) := of_decide_eq_true (by first | (with_reducible assumption) | assumption)
      obtain ⟨ad399, e399, AZ⟩ := Kd.dv HR0.out x5_1 p399 q399
      cases e399
      replace p399 := eq_true p399
      replace q399 := eq_true q399
      go_wp2
      go_roundg k1
      case measure => have := HK1.out; omega
      case rel => exact ⟨(wrap64 (x1_1 + 1)), (wrap64 (x5_1 + 1)), (by first | rfl | (simp; done) | (simp [*]; done)), (by first | rfl | (simp; done) | (simp [*]; done)), H', ⟨by have := HK1.out; omega⟩, by repeat (first | exact aK.refl _ | apply aK.step)⟩
     ·rw [if_neg c5] at H
      have c5b0 : ((rd l0 x5_1) == x1_1) = false := beq_eq_false_iff_ne.mpr c5
      have c5b1 : ((rd l0 x5_1) != x1_1) = true := bne_iff_ne.mpr c5
      obtain rfl := Option.some.inj H
      have p399 : 0 ≤ (x5_1 : Int) := of_decide_eq_true (by first | (with_reducible assumption) | assumption)
      have q399 : x5_1 < (l0.length : Int) := of_decide_eq_true (by first | (with_reducible assumption) | assumption)
      obtain ⟨ad399, e399, AZ⟩ := Kd.dv HR0.out x5_1 p399 q399
      cases e399
      replace p399 := eq_true p399
      replace q399 := eq_true q399
      go_wp2
      go_ret
      exact ⟨by first | rfl | (simp; done) | (simp [*]; done), by repeat (first | exact aK.refl _ | apply aK.step)⟩
    ·rw [if_neg c4] at H
     exact absurd H (by simp)
   ·rw [if_neg c3] at H
    have c3b0 : decide (x5_1 < (l0.length : Int)) = false := decide_eq_false c3
    clear c3
    obtain rfl := Option.some.inj H
    go_wp2
    go_ret
    exact ⟨by first | rfl | (simp; done) | (simp [*]; done), by repeat (first | exact aK.refl _ | apply aK.step)⟩
end Go.Proofs.YtmjlmloomkodpaaGreatDoor.PA
namespace Go.Proofs.YtmjlmloomkodpaaGreatDoor.PA
open Go.RowKit Go.Proofs.ae.aw Go.Proofs.ae.aJ Go.Proofs.ae.aN
attribute [local go_sem] bo bm bC bB a6 aZ bn bj
set_option linter.unusedVariables false
set_option linter.unusedSimpArgs false
def eE.f (k : Nat) (a0_0 : Int) (a0_1 : Int) (l0_2 : List Int) (l0_3 : List Int) (a1 : Int) : Option (Int) := (cf.f k l0_2 a1).bind fun t401 => (if t401 < 0 then (some (-1)) else ((cf.f k l0_3 t401).bind fun t402 => (if t402 < 0 then (some (-1)) else (some t402))))
set_option maxHeartbeats 8000000 in
set_option maxRecDepth 100000 in
theorem eE.calls (k : Nat) (a0_0 : Int) (a0_1 : Int) (A0_2 : Option Addr) (c0_2 : Nat) (l0_2 : List Int) (A0_3 : Option Addr) (c0_3 : Nat) (l0_3 : List Int) (a1 : Int) (r : Int) (w : World) (ca : Kd.C (Kd.int .i64) w A0_2 l0_2.length l0_2) (bX : l0_2.length ≤ c0_2) (b0 : Kd.C (Kd.int .i64) w A0_3 l0_3.length l0_3) (bW : l0_3.length ≤ c0_3) (h : eE.f k a0_0 a0_1 l0_2 l0_3 a1 = some r) :
  Calls Tryz.prog 17 #[.agg #[.int .i64 a0_0, .int .i64 a0_1, .slice A0_2 l0_2.length c0_2, .slice A0_3 l0_3.length c0_3], .int .i64 a1] w fun e w' => e = .returned (.int .i64 r) ∧ Below w.heap.size w w' := by
 have hu28 := Tryz.underlying28
 have cy := aa.mk ca
 have cD := aa.mk bX
 clear ca bX
 have cF := aa.mk b0
 have cK := aa.mk bW
 clear b0 bW
 have HB := aa.mk (Below.refl w.heap.size w)
 have H : ((cf.f k l0_2 a1).bind fun t401 => (if t401 < 0 then (some (-1)) else ((cf.f k l0_3 t401).bind fun t402 => (if t402 < 0 then (some (-1)) else (some t402))))) = some r := h
 clear h
 replace H := Option.bind_eq_some_iff.mp H
 obtain ⟨t401, A30, H⟩ := H
 replace H : (if t401 < 0 then (some (-1)) else ((cf.f k l0_3 t401).bind fun t402 => (if t402 < 0 then (some (-1)) else (some t402)))) = some r := H
 have A3 := aa.mk A30
 clear A30
 by_cases c4 : t401 < 0
 ·rw [if_pos c4] at H
  have c4b0 : decide (t401 < 0) = true := decide_eq_true c4
  clear c4
  obtain rfl := Option.some.inj H
  go_enter Tryz.func17, Tryz.ntmps17
  go_wp2_with (first | ((with_reducible refine aV (N := 2) rfl ?_); refine aM ?hg (N := 2) ?hd (cs := #[.int .i64 a0_0, .int .i64 a0_1, .slice A0_2 l0_2.length c0_2, .slice A0_3 l0_3.length c0_3]) (t := 28) ?hr ?_; (case hd => rfl); (case hg => rfl); (case hr => first | (go_simp; done) | (go_simp; rfl)); intro gX hg w5 hbox hb; have n0_ := aa.mk (ar (by repeat (first | (with_reducible first | exact HB.out | apply ag | apply af | apply ah) | exact HB.out)) hb); have n1_ := aa.mk (hbox); have n2_ := aa.mk ((by rw [hg]; exact (aq (by repeat (first | (with_reducible first | exact HB.out | apply ag | apply af | apply ah) | exact HB.out))) : w.heap.size ≤ gX)); have n3_ := aa.mk ((by rw [hg]; exact (aq (by repeat (first | (with_reducible first | exact HB.out | apply ag | apply af | apply ah) | exact HB.out))) : w.heap.size ≤ gX)); clear HB; have HB := n0_; have fL := n1_; have Da := n2_; have qe := n3_; clear n0_ n1_ n2_ n3_; clear hb hbox hg; have sk : w5.cell? ⟨gX, 0, none⟩ = some (.int .i64 a0_0) := (ai fL.out 0).trans rfl; have sj : w5.cell? ⟨gX, 1, none⟩ = some (.int .i64 a0_1) := (ai fL.out 1).trans rfl; have uX : w5.cell? ⟨gX, 2, none⟩ = some (.slice A0_2 l0_2.length c0_2) := (ai fL.out 2).trans rfl; have uW : w5.cell? ⟨gX, 3, none⟩ = some (.slice A0_3 l0_3.length c0_3) := (ai fL.out 3).trans rfl; have rP := aj fL.out 0; have rO := aj fL.out 1; have uS := aj fL.out 2; have uR := aj fL.out 3) | ((with_reducible refine az (f := 44) rfl ?_); refine bI (some 8) rfl rfl Tryz.func44 (by kernel_rfl) rfl #[.slice A0_2 l0_2.length c0_2, .int .i64 a1] rfl (by (try simp only [List.map_toArray, List.map_cons, List.map_nil]); first | done | rfl | (simp only [List.length_drop, List.length_take]; rfl)) ?_; (with_reducible refine (cf.calls k _ _ l0_2 a1 t401 _ ?side1 ?side2 A3.out).mono ?_); (case side1 => repeat (first | exact (Kd.ax cy.out HB.out) | (with_reducible refine Kd.aX ?_ _) | (with_reducible refine Kd.aW ?_ _) | (with_reducible refine Kd.bh ?_))); (case side2 => exact cD.out); rintro e w' ⟨rfl, ⟨nd, rfl⟩⟩; refine ⟨_, rfl, ?_⟩))
  go_ret
  exact ⟨by first | rfl | (simp [av, au] <;> rfl) | (simp [*, av, au] <;> rfl), by repeat (first | (with_reducible first | exact HB.out | apply ag | apply af | apply ah | refine ak ?_ qe.out) | exact HB.out)⟩
 ·rw [if_neg c4] at H
  have c4b0 : decide (t401 < 0) = false := decide_eq_false c4
  clear c4
  replace H := Option.bind_eq_some_iff.mp H
  obtain ⟨t402, A70, H⟩ := H
  replace H : (if t402 < 0 then (some (-1)) else (some t402)) = some r := H
  have A7 := aa.mk A70
  clear A70
  by_cases c8 : t402 < 0
  ·rw [if_pos c8] at H
   have c8b0 : decide (t402 < 0) = true := decide_eq_true c8
   clear c8
   obtain rfl := Option.some.inj H
   go_enter Tryz.func17, Tryz.ntmps17
   go_wp2_with (first | ((with_reducible refine aV (N := 2) rfl ?_); refine aM ?hg (N := 2) ?hd (cs := #[.int .i64 a0_0, .int .i64 a0_1, .slice A0_2 l0_2.length c0_2, .slice A0_3 l0_3.length c0_3]) (t := 28) ?hr ?_; (case hd => rfl); (case hg => rfl); (case hr => first | (go_simp; done) | (go_simp; rfl)); intro gX hg w9 hbox hb; have n0_ := aa.mk (ar (by repeat (first | (with_reducible first | exact HB.out | apply ag | apply af | apply ah) | exact HB.out)) hb); have n1_ := aa.mk (hbox); have n2_ := aa.mk ((by rw [hg]; exact (aq (by repeat (first | (with_reducible first | exact HB.out | apply ag | apply af | apply ah) | exact HB.out))) : w.heap.size ≤ gX)); have n3_ := aa.mk ((by rw [hg]; exact (aq (by repeat (first | (with_reducible first | exact HB.out | apply ag | apply af | apply ah) | exact HB.out))) : w.heap.size ≤ gX)); clear HB; have HB := n0_; have fL := n1_; have Da := n2_; have qe := n3_; clear n0_ n1_ n2_ n3_; clear hb hbox hg; have jV : w9.cell? ⟨gX, 0, none⟩ = some (.int .i64 a0_0) := (ai fL.out 0).trans rfl; have jU : w9.cell? ⟨gX, 1, none⟩ = some (.int .i64 a0_1) := (ai fL.out 1).trans rfl; have jT : w9.cell? ⟨gX, 2, none⟩ = some (.slice A0_2 l0_2.length c0_2) := (ai fL.out 2).trans rfl; have jS : w9.cell? ⟨gX, 3, none⟩ = some (.slice A0_3 l0_3.length c0_3) := (ai fL.out 3).trans rfl; have jR := aj fL.out 0; have jQ := aj fL.out 1; have jP := aj fL.out 2; have jO := aj fL.out 3) | ((with_reducible refine az (f := 44) rfl ?_); refine bI (some 8) rfl rfl Tryz.func44 (by kernel_rfl) rfl #[.slice A0_2 l0_2.length c0_2, .int .i64 a1] rfl (by (try simp only [List.map_toArray, List.map_cons, List.map_nil]); first | done | rfl | (simp only [List.length_drop, List.length_take]; rfl)) ?_; (with_reducible refine (cf.calls k _ _ l0_2 a1 t401 _ ?side1 ?side2 A3.out).mono ?_); (case side1 => repeat (first | exact (Kd.ax cy.out HB.out) | (with_reducible refine Kd.aX ?_ _) | (with_reducible refine Kd.aW ?_ _) | (with_reducible refine Kd.bh ?_))); (case side2 => exact cD.out); rintro e w' ⟨rfl, ⟨nd, rfl⟩⟩; refine ⟨_, rfl, ?_⟩) | ((with_reducible refine az (f := 44) rfl ?_); refine bI (some 14) rfl rfl Tryz.func44 (by kernel_rfl) rfl #[.slice A0_3 l0_3.length c0_3, .int .i64 t401] rfl (by (try simp only [List.map_toArray, List.map_cons, List.map_nil]); first | done | rfl | (simp only [List.length_drop, List.length_take]; rfl)) ?_; (with_reducible refine (cf.calls k _ _ l0_3 t401 t402 _ ?side1 ?side2 A7.out).mono ?_); (case side1 => repeat (first | exact (Kd.ax cF.out (by repeat (first | (with_reducible first | exact HB.out | apply ag | apply af | apply ah | refine ak ?_ qe.out) | exact HB.out))) | (with_reducible refine Kd.aX ?_ _) | (with_reducible refine Kd.aW ?_ _) | (with_reducible refine Kd.bh ?_))); (case side2 => exact cK.out); rintro e w' ⟨rfl, ⟨nd, rfl⟩⟩; refine ⟨_, rfl, ?_⟩))
   go_ret
   exact ⟨by first | rfl | (simp [av, au] <;> rfl) | (simp [*, av, au] <;> rfl), by repeat (first | (with_reducible first | exact HB.out | apply ag | apply af | apply ah | refine ak ?_ qe.out) | exact HB.out)⟩
  ·rw [if_neg c8] at H
   have c8b0 : decide (t402 < 0) = false := decide_eq_false c8
   clear c8
   obtain rfl := Option.some.inj H
   go_enter Tryz.func17, Tryz.ntmps17
   go_wp2_with (first | ((with_reducible refine aV (N := 2) rfl ?_); refine aM ?hg (N := 2) ?hd (cs := #[.int .i64 a0_0, .int .i64 a0_1, .slice A0_2 l0_2.length c0_2, .slice A0_3 l0_3.length c0_3]) (t := 28) ?hr ?_; (case hd => rfl); (case hg => rfl); (case hr => first | (go_simp; done) | (go_simp; rfl)); intro gX hg w11 hbox hb; have n0_ := aa.mk (ar (by repeat (first | (with_reducible first | exact HB.out | apply ag | apply af | apply ah) | exact HB.out)) hb); have n1_ := aa.mk (hbox); have n2_ := aa.mk ((by rw [hg]; exact (aq (by repeat (first | (with_reducible first | exact HB.out | apply ag | apply af | apply ah) | exact HB.out))) : w.heap.size ≤ gX)); have n3_ := aa.mk ((by rw [hg]; exact (aq (by repeat (first | (with_reducible first | exact HB.out | apply ag | apply af | apply ah) | exact HB.out))) : w.heap.size ≤ gX)); clear HB; have HB := n0_; have fL := n1_; have Da := n2_; have qe := n3_; clear n0_ n1_ n2_ n3_; clear hb hbox hg; have iQ : w11.cell? ⟨gX, 0, none⟩ = some (.int .i64 a0_0) := (ai fL.out 0).trans rfl; have iP : w11.cell? ⟨gX, 1, none⟩ = some (.int .i64 a0_1) := (ai fL.out 1).trans rfl; have iM : w11.cell? ⟨gX, 2, none⟩ = some (.slice A0_2 l0_2.length c0_2) := (ai fL.out 2).trans rfl; have iL : w11.cell? ⟨gX, 3, none⟩ = some (.slice A0_3 l0_3.length c0_3) := (ai fL.out 3).trans rfl; have iK := aj fL.out 0; have iJ := aj fL.out 1; have iI := aj fL.out 2; have iH := aj fL.out 3) | ((with_reducible refine az (f := 44) rfl ?_); refine bI (some 8) rfl rfl Tryz.func44 (by kernel_rfl) rfl #[.slice A0_2 l0_2.length c0_2, .int .i64 a1] rfl (by (try simp only [List.map_toArray, List.map_cons, List.map_nil]); first | done | rfl | (simp only [List.length_drop, List.length_take]; rfl)) ?_; (with_reducible refine (cf.calls k _ _ l0_2 a1 t401 _ ?side1 ?side2 A3.out).mono ?_); (case side1 => repeat (first | exact (Kd.ax cy.out HB.out) | (with_reducible refine Kd.aX ?_ _) | (with_reducible refine Kd.aW ?_ _) | (with_reducible refine Kd.bh ?_))); (case side2 => exact cD.out); rintro e w' ⟨rfl, ⟨nd, rfl⟩⟩; refine ⟨_, rfl, ?_⟩) | ((with_reducible refine az (f := 44) rfl ?_); refine bI (some 14) rfl rfl Tryz.func44 (by kernel_rfl) rfl #[.slice A0_3 l0_3.length c0_3, .int .i64 t401] rfl (by (try simp only [List.map_toArray, List.map_cons, List.map_nil]); first | done | rfl | (simp only [List.length_drop, List.length_take]; rfl)) ?_; (with_reducible refine (cf.calls k _ _ l0_3 t401 t402 _ ?side1 ?side2 A7.out).mono ?_); (case side1 => repeat (first | exact (Kd.ax cF.out (by repeat (first | (with_reducible first | exact HB.out | apply ag | apply af | apply ah | refine ak ?_ qe.out) | exact HB.out))) | (with_reducible refine Kd.aX ?_ _) | (with_reducible refine Kd.aW ?_ _) | (with_reducible refine Kd.bh ?_))); (case side2 => exact cK.out); rintro e w' ⟨rfl, ⟨nd, rfl⟩⟩; refine ⟨_, rfl, ?_⟩))
   go_ret
   exact ⟨by first | rfl | (simp [av, au] <;> rfl) | (simp [*, av, au] <;> rfl), by repeat (first | (with_reducible first | exact HB.out | apply ag | apply af | apply ah | refine ak ?_ qe.out) | exact HB.out)⟩
end Go.Proofs.YtmjlmloomkodpaaGreatDoor.PA
namespace Go.Proofs.YtmjlmloomkodpaaGreatDoor.PA
open Go.RowKit Go.Proofs.ae.aw Go.Proofs.ae.aJ Go.Proofs.ae.aN
attribute [local go_sem] bo bm bC bB a6 aZ bn bj
set_option linter.unusedVariables false
set_option linter.unusedSimpArgs false
mutual
def br.j0 : Nat → List Int → Bool → Option (List Int)
 | 0, _, _ => none
 | k + 1, x0, x13 => if x13 = true then (some ([] : List Int)) else ((cq.f (x0.length : Int)).bind fun t418 => (if 0 ≤ (wrap64 ((x0.length : Int) + t418)) then (if (wrap64 ((x0.length : Int) + t418) : Int).toNat ≤ 35184372088832 then (br.l0 k x0 (List.replicate (wrap64 ((x0.length : Int) + t418) : Int).toNat 0) 0) else (none)) else (none)))
def br.l0 : Nat → List Int → List Int → Int → Option (List Int)
 | 0, _, _, _ => none
 | k + 1, x0, x5, x6 => if x6 < (x0.length : Int) then (if 0 ≤ x6 then (if x6 < (x5.length : Int) then (br.l0 k x0 (x5.set (x6 : Int).toNat (rd x0 x6)) (wrap64 (x6 + 1))) else (none)) else (none)) else (br.l1 k x0 x5 (x0.length : Int))
def br.l1 : Nat → List Int → List Int → Int → Option (List Int)
 | 0, _, _, _ => none
 | k + 1, x0, x5, x7 => if x7 < (x5.length : Int) then (if 0 ≤ x7 then (br.l1 k x0 (x5.set (x7 : Int).toNat (-7000000000000000101)) (wrap64 (x7 + 1))) else (none)) else (if 0 ≤ (x0.length : Int) then (if (x0.length : Int) ≤ (x5.length : Int) then (some (x5.take ((x0.length : Int) : Int).toNat)) else (none)) else (none))
end
def br.f (k : Nat) (l0 : List Int) (a1 : Bool) : Option (List Int) := if a1 = true then (br.j0 k l0 ((l0.length : Int) == 0)) else (br.j0 k l0 false)
set_option maxHeartbeats 8000000 in
set_option maxRecDepth 100000 in
theorem br.calls (k : Nat) (A0 : Option Addr) (c0 : Nat) (l0 : List Int) (a1 : Bool) (r : List Int) (w : World) (hr0 : Kd.C (Kd.int .i64) w A0 l0.length l0) (hc0 : l0.length ≤ c0) (h : br.f k l0 a1 = some r) :
  Calls Tryz.prog 66 #[.slice A0 l0.length c0, .bool a1] w fun e w' => ∃ v0_ : Value, e = .returned (v0_) ∧ Kd.R (Kd.int .i64) 3 w' w.heap.size (fun _ => True) v0_ r ∧ Below w.heap.size w w' := by
 have HR0 := aa.mk hr0
 have HC0 := aa.mk hc0
 clear hr0 hc0
 have HB := aa.mk (Below.refl w.heap.size w)
 have H : (if a1 = true then (br.j0 k l0 ((l0.length : Int) == 0)) else (br.j0 k l0 false)) = some r := h
 clear h
 have HC3 := aa.mk H
 clear H
 go_enter Tryz.func66, Tryz.ntmps66
 go_upto_region 1 with (fail)
 go_cut [13] (fun v13 wc => ∃ (kq : Nat) (x13_2 : Bool), v13 = .bool x13_2 ∧ aa (br.j0 kq l0 x13_2 = some r) ∧ aa (kq ≤ k) ∧ aa (Below w.heap.size w wc))
 case first =>
  have H := HC3.out
  clear HC3
  by_cases c4 : a1 = true
  ·subst c4
   have H1 : (br.j0 k l0 ((l0.length : Int) == 0)) = some r := by rw [if_pos rfl] at H; exact H
   clear H
   have H := H1
   clear H1
   have H' := aa.mk H
   clear H
   go_wp2
   go_meet
   case rel => exact ⟨_, (((l0.length : Int) == 0)), (by first | rfl | (simp; done) | (simp [*]; done)), H', ⟨by first | omega | exact Nat.le_refl _⟩, ⟨by repeat (first | (with_reducible first | exact HB.out | apply ag | apply af | apply ah) | exact HB.out)⟩⟩
  ·replace c4 := Bool.eq_false_iff.mpr c4
   subst c4
   have H1 : (br.j0 k l0 false) = some r := by rw [if_neg (show ¬ (false = true) by decide)] at H; exact H
   clear H
   have H := H1
   clear H1
   have H' := aa.mk H
   clear H
   go_wp2
   go_meet
   case rel => exact ⟨_, (false), (by first | rfl | (simp; done) | (simp [*]; done)), H', ⟨by first | omega | exact Nat.le_refl _⟩, ⟨by repeat (first | (with_reducible first | exact HB.out | apply ag | apply af | apply ah) | exact HB.out)⟩⟩
 case rest =>
  clear HC3
  try clear p2
  try clear c4
  obtain ⟨kq, x13_2, rfl, HA, HJ2, HB⟩ := hcut
  cases kq with
  | zero => exact absurd HA.out (by simp [br.j0])
  | succ kj2 =>
   have H := HA.out
   clear HA
   simp only [br.j0] at H
   by_cases c5 : x13_2 = true
   ·subst c5
    have H1 : (some ([] : List Int)) = some r := by rw [if_pos rfl] at H; exact H
    clear H
    have H := H1
    clear H1
    obtain rfl := Option.some.inj H
    go_wp2
    go_ret
    exact ⟨_, by first | rfl | (simp [av, au] <;> rfl) | (simp [*, av, au] <;> rfl), by first | exact Kd.ir _ _ _ _ _ | exact Kd.mx _ _ _ _ _ | exact Kd.mu _ _ _ _ _ | exact Kd.mw _ _ _ _ _ | exact Kd.km _ _ _ _ _, by repeat (first | (with_reducible first | exact HB.out | apply ag | apply af | apply ah) | exact HB.out)⟩
   ·replace c5 := Bool.eq_false_iff.mpr c5
    subst c5
    have H1 : ((cq.f (l0.length : Int)).bind fun t418 => (if 0 ≤ (wrap64 ((l0.length : Int) + t418)) then (if (wrap64 ((l0.length : Int) + t418) : Int).toNat ≤ 35184372088832 then (br.l0 kj2 l0 (List.replicate (wrap64 ((l0.length : Int) + t418) : Int).toNat 0) 0) else (none)) else (none))) = some r := by rw [if_neg (show ¬ (false = true) by decide)] at H; exact H
    clear H
    have H := H1
    clear H1
    replace H := Option.bind_eq_some_iff.mp H
    obtain ⟨t418, A60, H⟩ := H
    replace H : (if 0 ≤ (wrap64 ((l0.length : Int) + t418)) then (if (wrap64 ((l0.length : Int) + t418) : Int).toNat ≤ 35184372088832 then (br.l0 kj2 l0 (List.replicate (wrap64 ((l0.length : Int) + t418) : Int).toNat 0) 0) else (none)) else (none)) = some r := H
    have A6 := aa.mk A60
    clear A60
    obtain ⟨ji7, hji7⟩ : ∃ j_ : Int, (wrap64 ((l0.length : Int) + t418)) = j_ := ⟨_, rfl⟩
    replace H : (if 0 ≤ (ji7) then (if (ji7 : Int).toNat ≤ 35184372088832 then (br.l0 kj2 l0 (List.replicate (ji7 : Int).toNat 0) 0) else (none)) else (none)) = some r := by first | (rw [hji7] at H; exact H) | (simp only [hji7] at H ⊢; exact H)
    (try rw [hji7] at A6)
    have hji7w : (IntKind.i64.wrap ((l0.length : Int) + t418)) = ji7 := (a8 _).trans hji7
    by_cases c8 : 0 ≤ (ji7)
    ·rw [if_pos c8] at H
     have c8b0 := eq_true c8
     have c8b1 : decide (0 ≤ (ji7)) = true := decide_eq_true c8
     clear c8
     by_cases c9 : (ji7 : Int).toNat ≤ 35184372088832
     ·rw [if_pos c9] at H
      have c9b0 := eq_true c9
      have c9b1 : decide ((ji7 : Int).toNat ≤ 35184372088832) = true := decide_eq_true c9
      clear c9
      obtain ⟨y419, hy419⟩ : ∃ y_ : List Int, y_ = (List.replicate (ji7 : Int).toNat 0) := ⟨_, rfl⟩
      replace H : (br.l0 kj2 l0 y419 0) = some r := by first | (rw [hy419]; with_reducible exact H) | (have H2_ := (Option.bind_some _ _).symm.trans H; rw [hy419]; with_reducible exact H2_) | (have H2_ := (Option.bind_some _ _).symm.trans H; with_reducible exact H2_) | with_reducible exact H | (rw [hy419]; exact H) | exact H
      have Ny419 := aa.mk hy419
      clear hy419
      have H' := aa.mk H
      clear H
      go_wp2_with (first | ((with_reducible refine az (f := 104) rfl ?_); refine bI (some 18) rfl rfl Tryz.func104 (by kernel_rfl) rfl #[.int .i64 (l0.length : Int)] rfl (by (try simp only [List.map_toArray, List.map_cons, List.map_nil]); first | done | rfl | (simp only [List.length_drop, List.length_take]; rfl)) ?_; (with_reducible refine (cq.calls (l0.length : Int) t418 _ A6.out).mono ?_); rintro e w' ⟨rfl, ⟨nd, rfl⟩⟩; refine ⟨_, rfl, ?_⟩) | ((with_reducible refine aV (N := 20) rfl ?_); (try (refine kK (by rfl) ?_; dsimp only)); refine Kd.zJ (Kd.int .i64) _ 3 rfl (N := 20) rfl 22 _ _ rfl ji7 rfl rfl Tryz.underlying22 (.int .i64 0) 8 iY rfl (by decide) (by omega) 0 (ok := fun _ => True) (okp := fun _ => True) rfl (fun _ hk => hk) trivial (of_decide_eq_true (by first | (with_reducible assumption) | assumption)) (Nat.le_trans (Nat.mul_le_mul_right _ (of_decide_eq_true (by first | (with_reducible assumption) | assumption) : ji7.toNat ≤ 35184372088832)) (by omega)) (Below.refl _ _) (Nat.le_refl _) ?_; intro v420 w10 pJ hb hg_ hnew_; clear hg_ hnew_; (first | rw [← Ny419.out] at pJ | (simp only [Int.reduceToNat] at pJ; rw [← Ny419.out] at pJ)); have n0_ := aa.mk (Kd.cW pJ (aq (by repeat (first | (with_reducible first | exact HB.out | apply ag | apply af | apply ah) | exact HB.out)))); have n1_ := aa.mk (ar (by repeat (first | (with_reducible first | exact HB.out | apply ag | apply af | apply ah) | exact HB.out)) hb); clear HB; have zO := n0_; have HB := n1_; clear n0_ n1_; clear hb pJ))
      go_loopg [6] kj2 (fun kq v6 w' => ∃ (x5_2 : List Int) (x6_2 : Int), v6 = .int .i64 x6_2 ∧ aa (br.l0 kq l0 x5_2 x6_2 = some r) ∧ aa (kq ≤ kj2) ∧ aa (Kd.R (Kd.int .i64) 3 w' w.heap.size (fun _ => True) v420 x5_2) ∧ aa (Below w.heap.size w w'))
      case atStart => exact ⟨(y419), (0), (by first | rfl | (simp; done) | (simp [*]; done)), H', ⟨Nat.le_refl _⟩, ⟨by (with_reducible repeat (first | apply Kd.aH | apply Kd.aG | apply Kd.aQ)); exact zO.out⟩, ⟨by repeat (first | (with_reducible first | exact HB.out | apply ag | apply af | apply ah) | exact HB.out)⟩⟩
      case round =>
       clear H'
       try clear c1
       try clear p2
       try clear c4
       try clear c5
       try clear c6
       try clear p6
       try clear c8
       try clear c8b0
       try clear c8b1
       try clear c9
       try clear c9b0
       try clear c9b1
       try clear c10
       try clear p2
       obtain ⟨x5_2, x6_2, rfl, HA, HK2, er, HB⟩ := hrel
       cases gk with
       | zero => exact absurd HA.out (by simp [br.l0])
       | succ k2 =>
        have H := HA.out
        clear HA
        simp only [br.l0] at H
        by_cases c12 : x6_2 < (l0.length : Int)
        ·rw [if_pos c12] at H
         have c12b0 : decide (x6_2 < (l0.length : Int)) = true := decide_eq_true c12
         clear c12
         by_cases c13 : 0 ≤ x6_2
         ·rw [if_pos c13] at H
          have c13b0 : decide (0 ≤ x6_2) = true := decide_eq_true c13
          clear c13
          by_cases c14 : x6_2 < (x5_2.length : Int)
          ·rw [if_pos c14] at H
           have c14b0 : decide (x6_2 < (x5_2.length : Int)) = true := decide_eq_true c14
           clear c14
           obtain ⟨y423, hy423⟩ : ∃ y_ : List Int, y_ = (x5_2.set (x6_2 : Int).toNat (rd l0 x6_2)) := ⟨_, rfl⟩
           replace H : (br.l0 k2 l0 y423 (wrap64 (x6_2 + 1))) = some r := by first | (rw [hy423]; with_reducible exact H) | (have H2_ := (Option.bind_some _ _).symm.trans H; rw [hy423]; with_reducible exact H2_) | (have H2_ := (Option.bind_some _ _).symm.trans H; with_reducible exact H2_) | with_reducible exact H | (rw [hy423]; exact H) | exact H
           have Ny423 := aa.mk hy423
           clear hy423
           have H' := aa.mk H
           clear H
           have p422 : 0 ≤ (x6_2 : Int) := of_decide_eq_true (by first | (with_reducible assumption) | assumption)
           have q422 : x6_2 < (l0.length : Int) := of_decide_eq_true (by first | (with_reducible assumption) | assumption)
           obtain ⟨ad422, e422, jm⟩ := Kd.dv HR0.out x6_2 p422 q422
           cases e422
           replace jm := (HB.out.cell (World.block_lt_of_cell? w _ jm)).trans jm
           replace p422 := eq_true p422
           replace q422 := eq_true q422
           have p15 : 0 ≤ (x6_2 : Int) := of_decide_eq_true (by first | (with_reducible assumption) | assumption)
           have q15 : (x6_2 : Int) < ((x5_2.length : Int) : Int) := of_decide_eq_true (by first | (with_reducible assumption) | assumption)
           obtain ⟨go15, pR, sL, zi, gl15, cl15, zR⟩ := Kd.nP er.out (by omega)
           (first | cases sL | (injection sL with ea_ en_ ec_; (first | subst ea_ | (injection ea_ with ea_; subst ea_)); subst ec_; clear en_))
           have GB15 := aa.mk zi
           have GG15 := aa.mk zR
           clear zi gl15 zR
           obtain ⟨uM, hf15_0⟩ := Kd.np 0 er.out (x6_2 : Int) p15 q15
           replace p15 := eq_true p15
           replace q15 := eq_true q15
           have vm := Kd.p7 er.out (x6_2 : Int) (rd l0 x6_2)
           go_wp2_with (first | ((with_reducible refine jD (t := 3) (p := 33) rfl ?_); refine iX (t := 3) (p := 33) (v := ?vo_w17) (w1 := (wr.setCell ⟨go15, (x6_2 : Int).toNat, none⟩ (.int .i64 (rd l0 x6_2)))) ?hg ?ho ?hn ?hr ?_; (case ho => rfl); (case hg => rfl); (case hn => rfl); (case hr => first | (go_simp; done) | (go_simp; rfl)); intro w17 hw; have hg : wr.grownBy w17 (some go15) := (by rw [hw]; exact vm.2); have hp_ : Kd.R (Kd.int .i64) 3 w17 w.heap.size (fun _ => True) (.slice (some ⟨go15, 0, none⟩) x5_2.length pR) y423 := (by rw [hw, Ny423.out]; exact vm.1); clear vm; have n0_ := aa.mk (hp_); have n1_ := aa.mk ((by rw [hw]; exact ak (HB.out) GB15.out : Below w.heap.size w w17)); clear er; clear HB; have er := n0_; have HB := n1_; clear n0_ n1_; clear hg hw hp_))
           go_roundg k2
           case measure => have := HJ2.out; have := HK2.out; omega
           case rel => exact ⟨(y423), (wrap64 (x6_2 + 1)), (by first | rfl | (simp; done) | (simp [*]; done)), H', ⟨by have := HJ2.out; have := HK2.out; omega⟩, ⟨by (with_reducible repeat (first | apply Kd.aH | apply Kd.aG | apply Kd.aQ)); exact er.out⟩, ⟨by repeat (first | (with_reducible first | exact HB.out | apply ag | apply af | apply ah) | exact HB.out)⟩⟩
          ·rw [if_neg c14] at H
           exact absurd H (by simp)
         ·rw [if_neg c13] at H
          exact absurd H (by simp)
        ·rw [if_neg c12] at H
         have c12b0 : decide (x6_2 < (l0.length : Int)) = false := decide_eq_false c12
         clear c12
         have H' := aa.mk H
         clear H
         go_wp2
         go_loopg [7] k2 (fun kq v7 w' => ∃ (x5_3 : List Int) (x7_3 : Int), v7 = .int .i64 x7_3 ∧ aa (br.l1 kq l0 x5_3 x7_3 = some r) ∧ aa (kq ≤ k2) ∧ aa (Kd.R (Kd.int .i64) 3 w' w.heap.size (fun _ => True) v420 x5_3) ∧ aa (Below w.heap.size w w'))
         case atStart => exact ⟨(x5_2), ((l0.length : Int)), (by first | rfl | (simp; done) | (simp [*]; done)), H', ⟨Nat.le_refl _⟩, ⟨by (with_reducible repeat (first | apply Kd.aH | apply Kd.aG | apply Kd.aQ)); exact er.out⟩, ⟨by repeat (first | (with_reducible first | exact HB.out | apply ag | apply af | apply ah) | exact HB.out)⟩⟩
         case round =>
          clear H'
          try clear c1
          try clear p1
          try clear q1
          try clear hx1
          try clear p2
          try clear c4
          try clear p4
          try clear q4
          try clear hx4
          try clear c5
          try clear c6
          try clear p6
          try clear c8
          try clear c8b0
          try clear c8b1
          try clear c9
          try clear c9b0
          try clear c9b1
          try clear c10
          try clear c12
          try clear c12b0
          try clear c13
          try clear c13b0
          try clear c14
          try clear c14b0
          try clear p15
          try clear q15
          try clear hx15
          try clear hf15
          try clear uM
          try clear jm
          try clear p15
          try clear p2
          try clear p422
          try clear p6
          try clear q15
          try clear q422
          obtain ⟨x5_3, x7_3, rfl, HA, HK3, er, HB⟩ := hrel
          cases gk with
          | zero => exact absurd HA.out (by simp [br.l1])
          | succ k3 =>
           have H := HA.out
           clear HA
           simp only [br.l1] at H
           by_cases c18 : x7_3 < (x5_3.length : Int)
           ·rw [if_pos c18] at H
            have c18b0 : decide (x7_3 < (x5_3.length : Int)) = true := decide_eq_true c18
            clear c18
            by_cases c19 : 0 ≤ x7_3
            ·rw [if_pos c19] at H
             have c19b0 : decide (0 ≤ x7_3) = true := decide_eq_true c19
             clear c19
             obtain ⟨y424, hy424⟩ : ∃ y_ : List Int, y_ = (x5_3.set (x7_3 : Int).toNat (-7000000000000000101)) := ⟨_, rfl⟩
             replace H : (br.l1 k3 l0 y424 (wrap64 (x7_3 + 1))) = some r := by first | (rw [hy424]; with_reducible exact H) | (have H2_ := (Option.bind_some _ _).symm.trans H; rw [hy424]; with_reducible exact H2_) | (have H2_ := (Option.bind_some _ _).symm.trans H; with_reducible exact H2_) | with_reducible exact H | (rw [hy424]; exact H) | exact H
             have Ny424 := aa.mk hy424
             clear hy424
             have H' := aa.mk H
             clear H
             obtain ⟨yu, ue, yj⟩ := Kd.bE er.out
             subst yj
             have p20 : 0 ≤ (x7_3 : Int) := of_decide_eq_true (by first | (with_reducible assumption) | assumption)
             have q20 : (x7_3 : Int) < ((x5_3.length : Int) : Int) := of_decide_eq_true (by first | (with_reducible assumption) | assumption)
             obtain ⟨go20, zv, ub, zh, gl20, cl20, zQ⟩ := Kd.nP er.out (by omega)
             (first | cases ub | (injection ub with ea_ en_ ec_; (first | subst ea_ | (injection ea_ with ea_; subst ea_)); subst ec_; clear en_))
             have GB20 := aa.mk zh
             have GG20 := aa.mk zQ
             clear zh gl20 zQ
             obtain ⟨Du, hf20_0⟩ := Kd.np 0 er.out (x7_3 : Int) p20 q20
             replace p20 := eq_true p20
             replace q20 := eq_true q20
             have vk := Kd.p7 er.out (x7_3 : Int) (-7000000000000000101)
             go_wp2_with (first | ((with_reducible refine jD (t := 3) (p := 44) rfl ?_); refine iX (t := 3) (p := 44) (v := ?vo_w23) (w1 := (wr.setCell ⟨go20, (x7_3 : Int).toNat, none⟩ (.int .i64 (-7000000000000000101)))) ?hg ?ho ?hn ?hr ?_; (case ho => rfl); (case hg => rfl); (case hn => rfl); (case hr => first | (go_simp; done) | (go_simp; rfl)); intro w23 hw; have hg : wr.grownBy w23 (some go20) := (by rw [hw]; exact vk.2); have hp_ : Kd.R (Kd.int .i64) 3 w23 w.heap.size (fun _ => True) (.slice (some ⟨go20, 0, none⟩) x5_3.length ue) y424 := (by rw [hw, Ny424.out]; exact vk.1); clear vk; have n0_ := aa.mk (hp_); have n1_ := aa.mk ((by rw [hw]; exact ak (HB.out) GB20.out : Below w.heap.size w w23)); clear er; clear HB; have er := n0_; have HB := n1_; clear n0_ n1_; clear hg hw hp_))
             go_roundg k3
             case measure => have := HJ2.out; have := HK2.out; have := HK3.out; omega
             case rel => exact ⟨(y424), (wrap64 (x7_3 + 1)), (by first | rfl | (simp; done) | (simp [*]; done)), H', ⟨by have := HJ2.out; have := HK2.out; have := HK3.out; omega⟩, ⟨by (with_reducible repeat (first | apply Kd.aH | apply Kd.aG | apply Kd.aQ)); exact er.out⟩, ⟨by repeat (first | (with_reducible first | exact HB.out | apply ag | apply af | apply ah) | exact HB.out)⟩⟩
            ·rw [if_neg c19] at H
             exact absurd H (by simp)
           ·rw [if_neg c18] at H
            have c18b0 : decide (x7_3 < (x5_3.length : Int)) = false := decide_eq_false c18
            clear c18
            by_cases c24 : 0 ≤ (l0.length : Int)
            ·rw [if_pos c24] at H
             have c24b0 := eq_true c24
             have c24b1 : decide (0 ≤ (l0.length : Int)) = true := decide_eq_true c24
             clear c24
             by_cases c25 : (l0.length : Int) ≤ (x5_3.length : Int)
             ·rw [if_pos c25] at H
              have c25b0 := eq_true c25
              have c25b1 : decide ((l0.length : Int) ≤ (x5_3.length : Int)) = true := decide_eq_true c25
              clear c25
              obtain ⟨y425, hy425⟩ : ∃ y_ : List Int, y_ = (x5_3.take ((l0.length : Int) : Int).toNat) := ⟨_, rfl⟩
              replace H : (some y425) = some r := by first | (rw [hy425]; with_reducible exact H) | (have H2_ := (Option.bind_some _ _).symm.trans H; rw [hy425]; with_reducible exact H2_) | (have H2_ := (Option.bind_some _ _).symm.trans H; with_reducible exact H2_) | with_reducible exact H | (rw [hy425]; exact H) | exact H
              have Ny425 := aa.mk hy425
              clear hy425
              obtain rfl := Option.some.inj H
              obtain ⟨CO, Cm, DS⟩ := Kd.bE er.out
              subst DS
              have q27 : ((l0.length : Int) : Int) ≤ ((x5_3.length : Int) : Int) := of_decide_eq_true (by first | (with_reducible assumption) | assumption)
              obtain ⟨i027, tU, _, hsz27, _⟩ := info_parts iY
              have uY := vd (P := Tryz.prog) 22 3 .i64 Tryz.underlying22 tU CO x5_3.length Cm (l0.length : Int) (of_decide_eq_true (by first | (with_reducible assumption) | assumption)) q27 (Kd.bZ er.out).2.1
              have Bj := Kd.vh (m := ((l0.length : Int) : Int).toNat) er.out (by omega)
              have hy27 : y425.length = ((l0.length : Int) : Int).toNat := (by rw [Ny425.out, List.length_take]; omega)
              rw [← Ny425.out] at Bj
              rw [← hy27] at Bj uY
              clear hy27 tU hsz27 er
              have FB := aa.mk Bj
              clear Bj
              replace q27 := eq_true q27
              go_wp2
              go_ret
              exact ⟨_, by first | rfl | (simp [av, au] <;> rfl) | (simp only [← hji7]; first | rfl | (simp [av, au] <;> rfl)) | (simp [*, av, au] <;> rfl), by (with_reducible repeat (first | apply Kd.aH | apply Kd.aG | apply Kd.aQ)); exact FB.out, by repeat (first | (with_reducible first | exact HB.out | apply ag | apply af | apply ah) | exact HB.out)⟩
             ·rw [if_neg c25] at H
              exact absurd H (by simp)
            ·rw [if_neg c24] at H
             exact absurd H (by simp)
     ·rw [if_neg c9] at H
      exact absurd H (by simp)
    ·rw [if_neg c8] at H
     exact absurd H (by simp)
end Go.Proofs.YtmjlmloomkodpaaGreatDoor.PA
namespace Go.Proofs.YtmjlmloomkodpaaGreatDoor.PA
open Go.RowKit Go.Proofs.ae.aw Go.Proofs.ae.aJ Go.Proofs.ae.aN
attribute [local go_sem] bo bm bC bB a6 aZ bn bj
set_option linter.unusedVariables false
set_option linter.unusedSimpArgs false
def fV.f (k : Nat) (a0_0 : Int) (a0_1 : Int) (l0_2 : List Int) (l0_3 : List Int) (a1 : Bool) : Option (Int × Int × List Int × List Int) := (br.f k l0_2 a1).bind fun t431 => ((br.f k l0_3 a1).bind fun t434 => (some (a0_0, a0_1, t431, t434)))
set_option maxHeartbeats 8000000 in
set_option maxRecDepth 100000 in
theorem fV.calls (k : Nat) (a0_0 : Int) (a0_1 : Int) (A0_2 : Option Addr) (c0_2 : Nat) (l0_2 : List Int) (A0_3 : Option Addr) (c0_3 : Nat) (l0_3 : List Int) (a1 : Bool) (r1 : Int) (r2 : Int) (r3 : List Int) (r4 : List Int) (w : World) (ca : Kd.C (Kd.int .i64) w A0_2 l0_2.length l0_2) (bX : l0_2.length ≤ c0_2) (b0 : Kd.C (Kd.int .i64) w A0_3 l0_3.length l0_3) (bW : l0_3.length ≤ c0_3) (h : fV.f k a0_0 a0_1 l0_2 l0_3 a1 = some (r1, r2, r3, r4)) :
  Calls Tryz.prog 37 #[.agg #[.int .i64 a0_0, .int .i64 a0_1, .slice A0_2 l0_2.length c0_2, .slice A0_3 l0_3.length c0_3], .bool a1] w fun e w' => ∃ v2_ v3_ : Value, e = .returned (.agg #[.int .i64 r1, .int .i64 r2, v2_, v3_]) ∧ Kd.R (Kd.int .i64) 3 w' w.heap.size (fun k_ => some k_ ≠ (v3_ : Value).ownBlock) v2_ r3 ∧ Kd.R (Kd.int .i64) 3 w' w.heap.size (fun k_ => some k_ ≠ (v2_ : Value).ownBlock) v3_ r4 ∧ Below w.heap.size w w' := by
 have hu24 := Tryz.underlying24
 have hu28 := Tryz.underlying28
 have cy := aa.mk ca
 have cD := aa.mk bX
 clear ca bX
 have cF := aa.mk b0
 have cK := aa.mk bW
 clear b0 bW
 have HB := aa.mk (Below.refl w.heap.size w)
 have H : ((br.f k l0_2 a1).bind fun t431 => ((br.f k l0_3 a1).bind fun t434 => (some (a0_0, a0_1, t431, t434)))) = some (r1, r2, r3, r4) := h
 clear h
 replace H := Option.bind_eq_some_iff.mp H
 obtain ⟨t431, A30, H⟩ := H
 replace H : ((br.f k l0_3 a1).bind fun t434 => (some (a0_0, a0_1, t431, t434))) = some (r1, r2, r3, r4) := H
 have A3 := aa.mk A30
 clear A30
 replace H := Option.bind_eq_some_iff.mp H
 obtain ⟨t434, A40, H⟩ := H
 replace H : (some (a0_0, a0_1, t431, t434)) = some (r1, r2, r3, r4) := H
 have A4 := aa.mk A40
 clear A40
 simp only [Option.some.injEq, Prod.mk.injEq] at H
 obtain ⟨rfl, rfl, rfl, rfl⟩ := H
 go_enter Tryz.func37, Tryz.ntmps37
 go_wp2_with (first | ((with_reducible refine aV (N := 2) rfl ?_); refine aM ?hg (N := 2) ?hd (cs := #[.int .i64 a0_0, .int .i64 a0_1, .slice A0_2 l0_2.length c0_2, .slice A0_3 l0_3.length c0_3]) (t := 24) ?hr ?_; (case hd => rfl); (case hg => rfl); (case hr => first | (go_simp; done) | (go_simp; rfl)); intro dB hg w5 hbox hb; have n0_ := aa.mk (ar (by repeat (first | (with_reducible first | exact HB.out | apply ag | apply af | apply ah) | exact HB.out)) hb); have n1_ := aa.mk (hbox); have n2_ := aa.mk ((by rw [hg]; exact (aq (by repeat (first | (with_reducible first | exact HB.out | apply ag | apply af | apply ah) | exact HB.out))) : w.heap.size ≤ dB)); have n3_ := aa.mk ((by rw [hg]; exact (aq (by repeat (first | (with_reducible first | exact HB.out | apply ag | apply af | apply ah) | exact HB.out))) : w.heap.size ≤ dB)); clear HB; have HB := n0_; have cP := n1_; have F4 := n2_; have fD := n3_; clear n0_ n1_ n2_ n3_; clear hb hbox hg) | ((with_reducible refine aV (N := 4) rfl ?_); refine aM ?hg (N := 4) ?hd (cs := #[.int .i64 0, .int .i64 0, .slice none 0 0, .slice none 0 0]) (t := 28) ?hr ?_; (case hd => rfl); (case hg => rfl); (case hr => first | (go_simp; done) | (go_simp; rfl)); intro dx hg w6 hbox hb; have n0_ := aa.mk (aD (g := dB) (o := .cells #[.int .i64 a0_0, .int .i64 a0_1, .slice A0_2 l0_2.length c0_2, .slice A0_3 l0_3.length c0_3] 24 (0, 0)) (by (with_reducible repeat (first | refine al ?_ _ | refine ao ?_ | refine an ?_ _)); exact cP.out) hb); have n1_ := aa.mk (ar (by repeat (first | (with_reducible first | exact HB.out | apply ag | apply af | apply ah | refine ak ?_ fD.out) | exact HB.out)) hb); have n2_ := aa.mk (hbox); have n3_ := aa.mk ((by rw [hg]; exact (aq (by repeat (first | (with_reducible first | exact HB.out | apply ag | apply af | apply ah | refine ak ?_ fD.out) | exact HB.out))) : w.heap.size ≤ dx)); have n4_ := aa.mk ((by rw [hg]; exact (aq (by repeat (first | (with_reducible first | exact HB.out | apply ag | apply af | apply ah | refine ak ?_ fD.out) | exact HB.out))) : w.heap.size ≤ dx)); have n5_ := aa.mk ((by rw [hg]; exact Nat.ne_of_lt (a7 (g := dB) (o := .cells #[.int .i64 a0_0, .int .i64 a0_1, .slice A0_2 l0_2.length c0_2, .slice A0_3 l0_3.length c0_3] 24 (0, 0)) (by (with_reducible repeat (first | refine al ?_ _ | refine ao ?_ | refine an ?_ _)); exact cP.out)) : dB ≠ dx)); have n6_ := aa.mk ((by rw [hg]; exact Nat.ne_of_gt (a7 (g := dB) (o := .cells #[.int .i64 a0_0, .int .i64 a0_1, .slice A0_2 l0_2.length c0_2, .slice A0_3 l0_3.length c0_3] 24 (0, 0)) (by (with_reducible repeat (first | refine al ?_ _ | refine ao ?_ | refine an ?_ _)); exact cP.out)) : dx ≠ dB)); clear cP; clear HB; have cP := n0_; have HB := n1_; have dC := n2_; have F3 := n3_; have gK := n4_; have nY := n5_; have nX := n6_; clear n0_ n1_ n2_ n3_ n4_ n5_ n6_; clear hb hbox hg) | ((with_reducible refine aV (N := 5) rfl ?_); refine aM ?hg (N := 5) ?hd (cs := #[.int .i64 0, .int .i64 0, .slice none 0 0, .slice none 0 0]) (t := 28) ?hr ?_; (case hd => rfl); (case hg => rfl); (case hr => first | (go_simp; done) | (go_simp; rfl)); intro dw hg w7 hbox hb; have n0_ := aa.mk (aD (g := dB) (o := .cells #[.int .i64 a0_0, .int .i64 a0_1, .slice A0_2 l0_2.length c0_2, .slice A0_3 l0_3.length c0_3] 24 (0, 0)) (by (with_reducible repeat (first | refine al ?_ _ | refine ao ?_ | refine an ?_ _)); exact cP.out) hb); have n1_ := aa.mk (aD (g := dx) (o := .cells #[.int .i64 0, .int .i64 0, .slice none 0 0, .slice none 0 0] 28 (0, 0)) (by (with_reducible repeat (first | refine al ?_ _ | refine ao ?_ | refine an ?_ _)); exact dC.out) hb); have n2_ := aa.mk (ar (by repeat (first | (with_reducible first | exact HB.out | apply ag | apply af | apply ah | refine ak ?_ fD.out | refine ak ?_ gK.out) | exact HB.out)) hb); have n3_ := aa.mk (hbox); have n4_ := aa.mk ((by rw [hg]; exact (aq (by repeat (first | (with_reducible first | exact HB.out | apply ag | apply af | apply ah | refine ak ?_ fD.out | refine ak ?_ gK.out) | exact HB.out))) : w.heap.size ≤ dw)); have n5_ := aa.mk ((by rw [hg]; exact (aq (by repeat (first | (with_reducible first | exact HB.out | apply ag | apply af | apply ah | refine ak ?_ fD.out | refine ak ?_ gK.out) | exact HB.out))) : w.heap.size ≤ dw)); have n6_ := aa.mk ((by rw [hg]; exact Nat.ne_of_lt (a7 (g := dB) (o := .cells #[.int .i64 a0_0, .int .i64 a0_1, .slice A0_2 l0_2.length c0_2, .slice A0_3 l0_3.length c0_3] 24 (0, 0)) (by (with_reducible repeat (first | refine al ?_ _ | refine ao ?_ | refine an ?_ _)); exact cP.out)) : dB ≠ dw)); have n7_ := aa.mk ((by rw [hg]; exact Nat.ne_of_gt (a7 (g := dB) (o := .cells #[.int .i64 a0_0, .int .i64 a0_1, .slice A0_2 l0_2.length c0_2, .slice A0_3 l0_3.length c0_3] 24 (0, 0)) (by (with_reducible repeat (first | refine al ?_ _ | refine ao ?_ | refine an ?_ _)); exact cP.out)) : dw ≠ dB)); have n8_ := aa.mk ((by rw [hg]; exact Nat.ne_of_lt (a7 (g := dx) (o := .cells #[.int .i64 0, .int .i64 0, .slice none 0 0, .slice none 0 0] 28 (0, 0)) (by (with_reducible repeat (first | refine al ?_ _ | refine ao ?_ | refine an ?_ _)); exact dC.out)) : dx ≠ dw)); have n9_ := aa.mk ((by rw [hg]; exact Nat.ne_of_gt (a7 (g := dx) (o := .cells #[.int .i64 0, .int .i64 0, .slice none 0 0, .slice none 0 0] 28 (0, 0)) (by (with_reducible repeat (first | refine al ?_ _ | refine ao ?_ | refine an ?_ _)); exact dC.out)) : dw ≠ dx)); clear cP; clear dC; clear HB; have cP := n0_; have dC := n1_; have HB := n2_; have cI := n3_; have F0 := n4_; have jH := n5_; have gv := n6_; have nW := n7_; have fA := n8_; have nV := n9_; clear n0_ n1_ n2_ n3_ n4_ n5_ n6_ n7_ n8_ n9_; clear hb hbox hg; have Bn := nY.out; have Bm := nX.out; have hnb9 := gv.out; have hnc9 := nW.out; have jV : w7.cell? ⟨dB, 0, none⟩ = some (.int .i64 a0_0) := (ai cP.out 0).trans rfl; have jU : w7.cell? ⟨dB, 1, none⟩ = some (.int .i64 a0_1) := (ai cP.out 1).trans rfl; have jT : w7.cell? ⟨dB, 2, none⟩ = some (.slice A0_2 l0_2.length c0_2) := (ai cP.out 2).trans rfl; have jS : w7.cell? ⟨dB, 3, none⟩ = some (.slice A0_3 l0_3.length c0_3) := (ai cP.out 3).trans rfl; have jR := aj cP.out 0; have jQ := aj cP.out 1; have jP := aj cP.out 2; have jO := aj cP.out 3; have vI := nV.out; have vH := fA.out; have iQ : w7.cell? ⟨dw, 0, none⟩ = some (.int .i64 0) := (ai cI.out 0).trans rfl; have iP : w7.cell? ⟨dw, 1, none⟩ = some (.int .i64 0) := (ai cI.out 1).trans rfl; have iM : w7.cell? ⟨dw, 2, none⟩ = some (.slice none 0 0) := (ai cI.out 2).trans rfl; have iL : w7.cell? ⟨dw, 3, none⟩ = some (.slice none 0 0) := (ai cI.out 3).trans rfl; have iK := aj cI.out 0; have iJ := aj cI.out 1; have iI := aj cI.out 2; have iH := aj cI.out 3) | ((with_reducible refine az (f := 66) rfl ?_); refine bI (some 15) rfl rfl Tryz.func66 (by kernel_rfl) rfl #[.slice A0_2 l0_2.length c0_2, .bool a1] rfl (by (try simp only [List.map_toArray, List.map_cons, List.map_nil]); first | done | rfl | (simp only [List.length_drop, List.length_take]; rfl)) ?_; (with_reducible refine (br.calls k _ _ l0_2 a1 t431 _ ?side1 ?side2 A3.out).mono ?_); (case side1 => exact Kd.ax cy.out (by repeat (first | (with_reducible first | exact HB.out | apply ag | apply af | apply ah | refine ak ?_ fD.out | refine ak ?_ gK.out | refine ak ?_ jH.out) | exact HB.out))); (case side2 => exact cD.out); rintro e w13 ⟨v432, rfl, ho0, hb⟩; refine ⟨_, rfl, ?_⟩; have n0_ := aa.mk (Kd.cW ho0 (aq (by repeat (first | (with_reducible first | exact HB.out | apply ag | apply af | apply ah | refine ak ?_ fD.out | refine ak ?_ gK.out | refine ak ?_ jH.out) | exact HB.out)))); have n1_ := aa.mk (aD (g := dB) (o := .cells #[.int .i64 a0_0, .int .i64 a0_1, .slice A0_2 l0_2.length c0_2, .slice A0_3 l0_3.length c0_3] 24 (0, 0)) (by (with_reducible repeat (first | refine al ?_ _ | refine ao ?_ | refine an ?_ _)); refine cT ?_ gv.out _; (with_reducible repeat (first | refine al ?_ _ | refine ao ?_ | refine an ?_ _)); refine cT ?_ gv.out _; (with_reducible repeat (first | refine al ?_ _ | refine ao ?_ | refine an ?_ _)); exact cP.out) hb); have n2_ := aa.mk (aD (g := dx) (o := .cells #[.int .i64 0, .int .i64 0, .slice none 0 0, .slice none 0 0] 28 (0, 0)) (by (with_reducible repeat (first | refine al ?_ _ | refine ao ?_ | refine an ?_ _)); refine cT ?_ fA.out _; (with_reducible repeat (first | refine al ?_ _ | refine ao ?_ | refine an ?_ _)); refine cT ?_ fA.out _; (with_reducible repeat (first | refine al ?_ _ | refine ao ?_ | refine an ?_ _)); exact dC.out) hb); have n3_ := aa.mk (aD (g := dw) (o := .cells #[.int .i64 a0_0, .int .i64 a0_1, .slice none 0 0, .slice none 0 0] 28 (0, 0)) (by (with_reducible repeat (first | refine al ?_ _ | refine ao ?_ | refine an ?_ _)); refine bF (cs := #[.int .i64 a0_0, .int .i64 0, .slice none 0 0, .slice none 0 0]) ?_ 1 _ rfl; (with_reducible repeat (first | refine al ?_ _ | refine ao ?_ | refine an ?_ _)); refine bF (cs := #[.int .i64 0, .int .i64 0, .slice none 0 0, .slice none 0 0]) ?_ 0 _ rfl; (with_reducible repeat (first | refine al ?_ _ | refine ao ?_ | refine an ?_ _)); exact cI.out) hb); have n4_ := aa.mk (ar (by repeat (first | (with_reducible first | exact HB.out | apply ag | apply af | apply ah | refine ak ?_ fD.out | refine ak ?_ gK.out | refine ak ?_ jH.out) | exact HB.out)) hb); clear cP; clear dC; clear cI; clear HB; have kT := n0_; have cP := n1_; have dC := n2_; have cI := n3_; have HB := n4_; clear n0_ n1_ n2_ n3_ n4_; (try clear hb); (try clear hb2); (try clear hk); (try clear hi); (try clear ho0); obtain ⟨fQ, fO, zp⟩ := Kd.bE kT.out; subst zp; have sE : w13.cell? ⟨dw, 0, none⟩ = some (.int .i64 a0_0) := (ai cI.out 0).trans rfl; have sD : w13.cell? ⟨dw, 1, none⟩ = some (.int .i64 a0_1) := (ai cI.out 1).trans rfl; have sC : w13.cell? ⟨dw, 2, none⟩ = some (.slice none 0 0) := (ai cI.out 2).trans rfl; have sB : w13.cell? ⟨dw, 3, none⟩ = some (.slice none 0 0) := (ai cI.out 3).trans rfl; have r9 := aj cI.out 0; have r8 := aj cI.out 1; have rZ := aj cI.out 2; have rY := aj cI.out 3; have l5 : w13.cell? ⟨dB, 0, none⟩ = some (.int .i64 a0_0) := (ai cP.out 0).trans rfl; have l4 : w13.cell? ⟨dB, 1, none⟩ = some (.int .i64 a0_1) := (ai cP.out 1).trans rfl; have na : w13.cell? ⟨dB, 2, none⟩ = some (.slice A0_2 l0_2.length c0_2) := (ai cP.out 2).trans rfl; have mZ : w13.cell? ⟨dB, 3, none⟩ = some (.slice A0_3 l0_3.length c0_3) := (ai cP.out 3).trans rfl; have lZ := aj cP.out 0; have lY := aj cP.out 1; have mY := aj cP.out 2; have mX := aj cP.out 3) | ((with_reducible refine az (f := 66) rfl ?_); refine bI (some 20) rfl rfl Tryz.func66 (by kernel_rfl) rfl #[.slice A0_3 l0_3.length c0_3, .bool a1] rfl (by (try simp only [List.map_toArray, List.map_cons, List.map_nil]); first | done | rfl | (simp only [List.length_drop, List.length_take]; rfl)) ?_; (with_reducible refine (br.calls k _ _ l0_3 a1 t434 _ ?side1 ?side2 A4.out).mono ?_); (case side1 => exact Kd.ax cF.out (by repeat (first | (with_reducible first | exact HB.out | apply ag | apply af | apply ah | refine ak ?_ fD.out | refine ak ?_ gK.out | refine ak ?_ jH.out) | exact HB.out))); (case side2 => exact cK.out); rintro e w17 ⟨v435, rfl, ho0, hb⟩; refine ⟨_, rfl, ?_⟩; have n0_ := aa.mk (Kd.qb (by (with_reducible repeat (first | apply Kd.aH | apply Kd.aG | apply Kd.aQ)); exact (Kd.bV (Kd.bp (p := ⟨dw, 2, none⟩) (Kd.cU kT.out cI.out (by decide)) (fun _ hk => hk.2) (.slice fQ t431.length fO)) (fun _ h_ => h_.1))) (Kd.kO ho0) hb); have n1_ := aa.mk (Kd.cW (Kd.p9 ho0 (Kd.ko (by (with_reducible repeat (first | apply Kd.aH | apply Kd.aG | apply Kd.aQ)); exact (Kd.bV (Kd.bp (p := ⟨dw, 2, none⟩) (Kd.cU kT.out cI.out (by decide)) (fun _ hk => hk.2) (.slice fQ t431.length fO)) (fun _ h_ => h_.1))))) (aq (by repeat (first | (with_reducible first | exact HB.out | apply ag | apply af | apply ah | refine ak ?_ fD.out | refine ak ?_ gK.out | refine ak ?_ jH.out) | exact HB.out)))); have n2_ := aa.mk (aD (g := dB) (o := .cells #[.int .i64 a0_0, .int .i64 a0_1, .slice A0_2 l0_2.length c0_2, .slice A0_3 l0_3.length c0_3] 24 (0, 0)) (by (with_reducible repeat (first | refine al ?_ _ | refine ao ?_ | refine an ?_ _)); refine cT ?_ gv.out _; (with_reducible repeat (first | refine al ?_ _ | refine ao ?_ | refine an ?_ _)); exact cP.out) hb); have n3_ := aa.mk (aD (g := dx) (o := .cells #[.int .i64 0, .int .i64 0, .slice none 0 0, .slice none 0 0] 28 (0, 0)) (by (with_reducible repeat (first | refine al ?_ _ | refine ao ?_ | refine an ?_ _)); refine cT ?_ fA.out _; (with_reducible repeat (first | refine al ?_ _ | refine ao ?_ | refine an ?_ _)); exact dC.out) hb); have n4_ := aa.mk (aD (g := dw) (o := .cells #[.int .i64 a0_0, .int .i64 a0_1, .slice fQ t431.length fO, .slice none 0 0] 28 (0, 0)) (by (with_reducible repeat (first | refine al ?_ _ | refine ao ?_ | refine an ?_ _)); refine bF (cs := #[.int .i64 a0_0, .int .i64 a0_1, .slice none 0 0, .slice none 0 0]) ?_ 2 _ rfl; (with_reducible repeat (first | refine al ?_ _ | refine ao ?_ | refine an ?_ _)); exact cI.out) hb); have n5_ := aa.mk (ar (by repeat (first | (with_reducible first | exact HB.out | apply ag | apply af | apply ah | refine ak ?_ fD.out | refine ak ?_ gK.out | refine ak ?_ jH.out) | exact HB.out)) hb); clear kT; clear cP; clear dC; clear cI; clear HB; have kT := n0_; have xo := n1_; have cP := n2_; have dC := n3_; have cI := n4_; have HB := n5_; clear n0_ n1_ n2_ n3_ n4_ n5_; (try clear hb); (try clear hb2); (try clear hk); (try clear hi); (try clear ho0); obtain ⟨oP, oM, eo18⟩ := Kd.bE xo.out; subst eo18; have wL : w17.cell? ⟨dw, 0, none⟩ = some (.int .i64 a0_0) := (ai cI.out 0).trans rfl; have wK : w17.cell? ⟨dw, 1, none⟩ = some (.int .i64 a0_1) := (ai cI.out 1).trans rfl; have wJ : w17.cell? ⟨dw, 2, none⟩ = some (.slice fQ t431.length fO) := (ai cI.out 2).trans rfl; have wI : w17.cell? ⟨dw, 3, none⟩ = some (.slice none 0 0) := (ai cI.out 3).trans rfl; have wa := aj cI.out 0; have vZ := aj cI.out 1; have vY := aj cI.out 2; have vX := aj cI.out 3; have wH : w17.cell? ⟨dx, 0, none⟩ = some (.int .i64 0) := (ai dC.out 0).trans rfl; have wG : w17.cell? ⟨dx, 1, none⟩ = some (.int .i64 0) := (ai dC.out 1).trans rfl; have wE : w17.cell? ⟨dx, 2, none⟩ = some (.slice none 0 0) := (ai dC.out 2).trans rfl; have wD : w17.cell? ⟨dx, 3, none⟩ = some (.slice none 0 0) := (ai dC.out 3).trans rfl; have vW := aj dC.out 0; have vV := aj dC.out 1; have vU := aj dC.out 2; have vT := aj dC.out 3))
 refine bodyPost_ret (results_cell_row rfl _ _ dx 28 #[.int .i64 a0_0, .int .i64 a0_1, .slice fQ t431.length fO, .slice oP t434.length oM] (0, 0) _ rfl (by (with_reducible repeat (first | refine al ?_ _ | refine ao ?_ | refine an ?_ _)); refine bF (cs := #[.int .i64 a0_0, .int .i64 a0_1, .slice fQ t431.length fO, .slice none 0 0]) ?_ 3 _ rfl; (with_reducible repeat (first | refine al ?_ _ | refine ao ?_ | refine an ?_ _)); refine bF (cs := #[.int .i64 a0_0, .int .i64 a0_1, .slice none 0 0, .slice none 0 0]) ?_ 2 _ rfl; (with_reducible repeat (first | refine al ?_ _ | refine ao ?_ | refine an ?_ _)); refine bF (cs := #[.int .i64 a0_0, .int .i64 0, .slice none 0 0, .slice none 0 0]) ?_ 1 _ rfl; (with_reducible repeat (first | refine al ?_ _ | refine ao ?_ | refine an ?_ _)); refine bF (cs := #[.int .i64 0, .int .i64 0, .slice none 0 0, .slice none 0 0]) ?_ 0 _ rfl; (with_reducible repeat (first | refine al ?_ _ | refine ao ?_ | refine an ?_ _)); refine cT ?_ fA.out _; (with_reducible repeat (first | refine al ?_ _ | refine ao ?_ | refine an ?_ _)); exact dC.out) Tryz.underlying28 rfl (by kernel_rfl)) rfl ?_
 exact ⟨_, _, by first | rfl | (simp [av, au] <;> rfl) | (simp [*, av, au] <;> rfl), by (with_reducible repeat (first | apply Kd.aH | apply Kd.aG | apply Kd.aQ)); exact Kd.bV (Kd.bp (p := ⟨dx, 3, none⟩) (Kd.bp (p := ⟨dx, 2, none⟩) (Kd.bp (p := ⟨dx, 1, none⟩) (Kd.bp (p := ⟨dx, 0, none⟩) (Kd.bp (p := ⟨dw, 3, none⟩) (Kd.cU (Kd.cU kT.out cI.out (by decide)) dC.out (by decide)) (fun _ hk => hk.1.2) (.slice oP t434.length oM)) (fun _ hk => hk.2) (.int .i64 a0_0)) (fun _ hk => hk.2) (.int .i64 a0_1)) (fun _ hk => hk.2) (.slice fQ t431.length fO)) (fun _ hk => hk.2) (.slice oP t434.length oM)) (fun _ hk => hk.1.1.2), by (with_reducible repeat (first | apply Kd.aH | apply Kd.aG | apply Kd.aQ)); exact Kd.bV (Kd.bp (p := ⟨dx, 3, none⟩) (Kd.bp (p := ⟨dx, 2, none⟩) (Kd.bp (p := ⟨dx, 1, none⟩) (Kd.bp (p := ⟨dx, 0, none⟩) (Kd.bp (p := ⟨dw, 3, none⟩) (Kd.cU (Kd.cU xo.out cI.out (by decide)) dC.out (by decide)) (fun _ hk => hk.1.2) (.slice oP t434.length oM)) (fun _ hk => hk.2) (.int .i64 a0_0)) (fun _ hk => hk.2) (.int .i64 a0_1)) (fun _ hk => hk.2) (.slice fQ t431.length fO)) (fun _ hk => hk.2) (.slice oP t434.length oM)) (fun _ hk => hk.1.1.2), by repeat (first | (with_reducible first | exact HB.out | apply ag | apply af | apply ah | refine ak ?_ fD.out | refine ak ?_ gK.out | refine ak ?_ jH.out) | exact HB.out)⟩
end Go.Proofs.YtmjlmloomkodpaaGreatDoor.PA
