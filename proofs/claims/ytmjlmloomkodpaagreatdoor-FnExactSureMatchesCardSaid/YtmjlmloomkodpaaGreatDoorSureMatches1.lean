/- Written for this claim by its session's own programs: contracts of the functions that the law reaches, and the plain law over them (part 1 of 6). -/
import Derived.Shelf.Strings.Builder1
import Derived.Shelf.Strings.Builder2
import Derived.Shelf.Strings.OnBuilder
import Derived.Shelf.Small.Strs
import Derived.Shelf.SlGeneric
import Derived.Test.YtmjlmloomkodpaaGreatDoorProg
import Derived.Shelf.SlSortCmp.NoneTotal
import Derived.Ground.SlsfProg
import Derived.Lone
import Derived.Listen
import Derived.RunT
import Derived.Calls
import Derived.Below
import Derived.Sort.Grow
import Derived.Deep.Draws
import Derived.Deep.AppendLies
import Derived.Maps.AppendAt
import Derived.OwnWalk
import Derived.Laws.BytesArg
import Derived.Laws.MakeOwn
import Derived.Laws.OwnMore
import Derived.Deep.OwnRows
import Derived.Tactics
import Derived.Lib.ConvBytes
import Derived.Laws.Slices
import Derived.WalkKit
import Derived.KernelRfl
import Derived.RowKit3
import Derived.Deep.LoopGhost
import Derived.Deep.QuietTactic
import Derived.BigQuiet
import Derived.WideLaws
import Derived.Deep.DeepCutAuto
import Derived.Deep.CutBlock
import Derived.Deep.RegionHeld3
import Derived.Laws.Rows
import Derived.Lib.AppendStr
import Derived.ArgAppend
import Derived.Laws.IdiomCopy
import Derived.OrdersHeld
import Derived.Laws.BitsLemmas
import Derived.RowKit
import Derived.Shelf.Abstract
import Derived.Lib.TrailingZeros
import Derived.Laws.Bits64b
import Derived.Lib.SliceRun
import Derived.StillTailTactics
import Derived.Laws.EntriesVeiled
import Derived.Laws.StructEq
import Derived.Laws.Entries
import Derived.ProofKit
import Derived.OpenShut
import Derived.ChangeOld
import Derived.Carry
import Derived.SizedLaws
import Derived.Deep.DeepHandedRow
import Derived.Lib.LaidTab
import Derived.Test.YtmjlmloomkodpaaGreatDoorSureMatches0
namespace Go.Proofs
open Go.Shelf
def Tryz.oq : Go.Shelf.Ren := ⟨fun | 156 => 84 | 165 => 116 | 166 => 117 | 169 => 118 | 240 => 152 | 241 => 153 | 276 => 186 | 277 => 187 | n => n, fun | 31 => 68 | 9 => 9 | 3 => 3 | 4 => 4 | 0 => 0 | 20 => 20 | 72 => 132 | 76 => 112 | 70 => 130 | 37 => 97 | 75 => 111 | 127 => 159 | 164 => 188 | 5 => 5 | 80 => 134 | n => n, fun | n => n⟩
theorem Tryz.AO : Go.Proofs.Lays.n156 Tryz.prog Tryz.oq := {
  mixed := by kernel_rfl
  f156 := Tryz.func84.trans (congrArg some (by kernel_rfl))
  f165 := Tryz.func116.trans (congrArg some (by kernel_rfl))
  f166 := Tryz.func117.trans (congrArg some (by kernel_rfl))
  f169 := Tryz.func118.trans (congrArg some (by kernel_rfl))
  f240 := Tryz.func152.trans (congrArg some (by kernel_rfl))
  f241 := Tryz.func153.trans (congrArg some (by kernel_rfl))
  f276 := Tryz.func186.trans (congrArg some (by kernel_rfl))
  f277 := Tryz.func187.trans (congrArg some (by kernel_rfl))
  t0 := Tryz.underlying0
  a0 := Tryz.isAgg0
  z0 := Tryz.sizeOf0
  v0 := Tryz.zeroValue0
  t3 := Tryz.underlying3
  a3 := Tryz.isAgg3
  z3 := Tryz.sizeOf3
  v3 := Tryz.zeroValue3
  t4 := Tryz.underlying4
  a4 := Tryz.isAgg4
  z4 := Tryz.sizeOf4
  v4 := Tryz.zeroValue4
  t9 := Tryz.underlying9
  a9 := Tryz.isAgg9
  z9 := Tryz.sizeOf9
  v9 := Tryz.zeroValue9
  t20 := Tryz.underlying20
  a20 := Tryz.isAgg20
  z20 := Tryz.sizeOf20
  v20 := Tryz.zeroValue20
  t31 := Tryz.underlying68
  a31 := Tryz.isAgg68
  z31 := Tryz.sizeOf68
  v31 := Tryz.zeroValue68
  t37 := Tryz.underlying97
  a37 := Tryz.isAgg97
  z37 := Tryz.sizeOf97
  v37 := Tryz.zeroValue97
  t70 := Tryz.underlying130
  a70 := Tryz.isAgg130
  z70 := Tryz.sizeOf130
  v70 := Tryz.zeroValue130
  t72 := Tryz.underlying132
  a72 := Tryz.isAgg132
  z72 := Tryz.sizeOf132
  v72 := Tryz.zeroValue132
  t75 := Tryz.underlying111
  a75 := Tryz.isAgg111
  z75 := Tryz.sizeOf111
  v75 := Tryz.zeroValue111
  t76 := Tryz.underlying112
  a76 := Tryz.isAgg112
  z76 := Tryz.sizeOf112
  v76 := Tryz.zeroValue112
  t127 := Tryz.underlying159
  a127 := Tryz.isAgg159
  z127 := Tryz.sizeOf159
  v127 := Tryz.zeroValue159
  t164 := Tryz.underlying188
  a164 := Tryz.isAgg188
  z164 := Tryz.sizeOf188
  v164 := Tryz.zeroValue188 }
theorem Tryz.nv : Builder.Extra Tryz.prog Tryz.oq := {
  sizeBuilder := by kernel_rfl
  liesBuilder := by kernel_rfl
  t5 := Tryz.underlying5
  a5 := Tryz.isAgg5
  z5 := Tryz.sizeOf5
  v5 := Tryz.zeroValue5
  infoByte := by kernel_rfl
  cellsByte := by kernel_rfl
  sizeByte := by kernel_rfl
  neB5 := by decide }
open Go.RowKit in
open Go.RowKit in
theorem Tryz.strings_Join (bk o c : Nat) (xs : List ByteArray) (sep : ByteArray) (w : World) (hcells : ∀ (j : Nat) x, xs[j]? = some x → w.cell? ⟨bk, o + j, none⟩ = some (.string x)) (hbk : bk < w.heap.size) (hN : xs.length ≤ 140737488355328) (hcap : xs.length ≤ c) (hlen : (Lib.join (xs.map (·.data.toList)) sep.data.toList).length ≤ 140737488355328) :
    Calls Tryz.prog 84 #[.slice (some ⟨bk, o, none⟩) xs.length c, .string sep] w fun e w' => e = .returned (.string ⟨(Lib.join (xs.map (·.data.toList)) sep.data.toList).toArray⟩) ∧ Below w.heap.size w w' := Any.strings_Join Tryz.AO Tryz.nv bk o c xs sep w hcells hbk hN hcap hlen
def Tryz.CK : Go.Shelf.Ren := ⟨fun | 213 => 151 | 265 => 185 | n => n, fun | 9 => 9 | 3 => 3 | n => n, fun | n => n⟩
open Go.RowKit in
def Tryz.tU : Go.Shelf.Ren := ⟨fun | 106 => 115 | 213 => 151 | 265 => 185 | n => n, fun | 9 => 9 | 3 => 3 | n => n, fun | n => n⟩
theorem Tryz.AP : Go.Proofs.Lays.n106 Tryz.prog Tryz.tU := {
  mixed := by kernel_rfl
  f106 := Tryz.func115.trans (congrArg some (by kernel_rfl))
  f213 := Tryz.func151.trans (congrArg some (by kernel_rfl))
  f265 := Tryz.func185.trans (congrArg some (by kernel_rfl))
  t3 := Tryz.underlying3
  a3 := Tryz.isAgg3
  z3 := Tryz.sizeOf3
  v3 := Tryz.zeroValue3
  t9 := Tryz.underlying9
  a9 := Tryz.isAgg9
  z9 := Tryz.sizeOf9
  v9 := Tryz.zeroValue9 }
open Go.RowKit in
theorem Tryz.strings_Compare (a b : ByteArray) (w : World) :
    Calls Tryz.prog 115 #[.string a, .string b] w fun e w' => e = .returned (.int .i64 (Lib.compareBytes a.data.toList b.data.toList)) ∧ w' = w := Any.strings_Compare Tryz.AP a b w
end Go.Proofs
namespace Go.Proofs
open Go.Shelf
def Tryz.tD : Go.Shelf.Ren := ⟨fun | 6 => 113 | 15 => 148 | 14 => 147 | 28 => 182 | 29 => 183 | 20 => 174 | 21 => 175 | 22 => 176 | 23 => 177 | 24 => 178 | 25 => 179 | 26 => 180 | 27 => 181 | 46 => 204 | 47 => 205 | 48 => 206 | 49 => 207 | 50 => 208 | 57 => 219 | n => n, fun | 22 => 39 | 24 => 28 | 25 => 95 | 3 => 3 | 39 => 138 | 0 => 0 | 53 => 186 | 55 => 56 | 4 => 4 | 46 => 180 | 45 => 179 | 50 => 44 | 5 => 5 | 9 => 9 | 66 => 209 | 70 => 213 | 76 => 222 | 77 => 52 | n => n, fun | n => n⟩
theorem Tryz.vI : Go.Proofs.SlLaysF0.n6 Tryz.prog Tryz.tD := {
  mixed := by kernel_rfl
  f6 := ⟨Tryz.f113.name, by decide, Tryz.func113.trans (congrArg some (by kernel_rfl))⟩
  f14 := ⟨Tryz.f147.name, by decide, Tryz.func147.trans (congrArg some (by kernel_rfl))⟩
  f15 := Tryz.func148.trans (congrArg some (by kernel_rfl))
  f20 := ⟨Tryz.f174.name, by decide, Tryz.func174.trans (congrArg some (by kernel_rfl))⟩
  f21 := ⟨Tryz.f175.name, by decide, Tryz.func175.trans (congrArg some (by kernel_rfl))⟩
  f22 := ⟨Tryz.f176.name, by decide, Tryz.func176.trans (congrArg some (by kernel_rfl))⟩
  f23 := ⟨Tryz.f177.name, by decide, Tryz.func177.trans (congrArg some (by kernel_rfl))⟩
  f24 := ⟨Tryz.f178.name, by decide, Tryz.func178.trans (congrArg some (by kernel_rfl))⟩
  f25 := ⟨Tryz.f179.name, by decide, Tryz.func179.trans (congrArg some (by kernel_rfl))⟩
  f26 := ⟨Tryz.f180.name, by decide, Tryz.func180.trans (congrArg some (by kernel_rfl))⟩
  f27 := ⟨Tryz.f181.name, by decide, Tryz.func181.trans (congrArg some (by kernel_rfl))⟩
  f28 := Tryz.func182.trans (congrArg some (by kernel_rfl))
  f29 := Tryz.func183.trans (congrArg some (by kernel_rfl))
  f46 := ⟨Tryz.f204.name, by decide, Tryz.func204.trans (congrArg some (by kernel_rfl))⟩
  f47 := Tryz.func205.trans (congrArg some (by kernel_rfl))
  f48 := Tryz.func206.trans (congrArg some (by kernel_rfl))
  f49 := ⟨Tryz.f207.name, by decide, Tryz.func207.trans (congrArg some (by kernel_rfl))⟩
  f50 := ⟨Tryz.f208.name, by decide, Tryz.func208.trans (congrArg some (by kernel_rfl))⟩
  f57 := ⟨Tryz.f219.name, by decide, Tryz.func219.trans (congrArg some (by kernel_rfl))⟩
  t0 := Tryz.underlying0
  a0 := Tryz.isAgg0
  z0 := Tryz.sizeOf0
  v0 := Tryz.zeroValue0
  t3 := Tryz.underlying3
  a3 := Tryz.isAgg3
  z3 := Tryz.sizeOf3
  v3 := Tryz.zeroValue3
  t4 := Tryz.underlying4
  a4 := Tryz.isAgg4
  z4 := Tryz.sizeOf4
  v4 := Tryz.zeroValue4
  t5 := Tryz.underlying5
  a5 := Tryz.isAgg5
  z5 := Tryz.sizeOf5
  v5 := Tryz.zeroValue5
  t9 := Tryz.underlying9
  a9 := Tryz.isAgg9
  z9 := Tryz.sizeOf9
  v9 := Tryz.zeroValue9
  t22 := Tryz.underlying39
  a22 := Tryz.isAgg39
  z22 := Tryz.sizeOf39
  v22 := Tryz.zeroValue39
  t25 := Tryz.underlying95
  a25 := Tryz.isAgg95
  z25 := Tryz.sizeOf95
  v25 := Tryz.zeroValue95
  t39 := Tryz.underlying138
  a39 := Tryz.isAgg138
  z39 := Tryz.sizeOf138
  v39 := Tryz.zeroValue138
  t45 := Tryz.underlying179
  a45 := Tryz.isAgg179
  z45 := Tryz.sizeOf179
  v45 := Tryz.zeroValue179
  t46 := Tryz.underlying180
  a46 := Tryz.isAgg180
  z46 := Tryz.sizeOf180
  v46 := Tryz.zeroValue180
  t50 := Tryz.underlying44
  a50 := Tryz.isAgg44
  z50 := Tryz.sizeOf44
  v50 := Tryz.zeroValue44
  t53 := Tryz.underlying186
  a53 := Tryz.isAgg186
  z53 := Tryz.sizeOf186
  v53 := Tryz.zeroValue186
  t55 := Tryz.underlying56
  a55 := Tryz.isAgg56
  z55 := Tryz.sizeOf56
  v55 := Tryz.zeroValue56
  t66 := Tryz.underlying209
  a66 := Tryz.isAgg209
  z66 := Tryz.sizeOf209
  v66 := Tryz.zeroValue209
  t70 := Tryz.underlying213
  a70 := Tryz.isAgg213
  z70 := Tryz.sizeOf213
  v70 := Tryz.zeroValue213
  t76 := Tryz.underlying222
  a76 := Tryz.isAgg222
  z76 := Tryz.sizeOf222
  v76 := Tryz.zeroValue222
  t77 := Tryz.underlying52
  a77 := Tryz.isAgg52
  z77 := Tryz.sizeOf52
  v77 := Tryz.zeroValue52 }
end Go.Proofs
namespace Go.Proofs.YtmjlmloomkodpaaGreatDoor.Dr
open Go Go.Proofs Go.RowKit Go.Sort
def xl {α : Type} (n : Nat) : Result α → Prop
  | .ok _ w => n ≤ w.drawn
  | .halt _ w => n ≤ w.drawn
theorem vx {α : Type} : ∀ (k : Ask α) (w : World), w.drawn ≤ (w.ask k).2.drawn
  | .done a, w => Nat.le_refl _
  | .ask what range k, w => by
    unfold World.ask
    simp only []
    split
    · exact vx _ w
    · exact Nat.le_of_succ_le (vx _ { w with drawn := w.drawn + 1 })
theorem Db (w : World) (c : Sys) : w.drawn ≤ (w.sys c).2.drawn := by
  unfold World.sys
  have h := vx (Kernel.perform c w.os) w
  split
  · exact Nat.le_refl _
  · rename_i heq
    rw [heq] at h
    exact h
theorem uo {ε α β : Type} {x : Except ε α} {f : α → Except ε β} {b : β} (h : (x >>= f) = .ok b) : ∃ a, x = .ok a ∧ f a = .ok b := by
  cases x with
  | error e => cases h
  | ok a => exact ⟨a, rfl, h⟩
theorem oG {p : Program} {w w' : World} {a : Addr} {u : TypeId} {k : Addr} {v : Value} {b : Bool} {l : List Addr} (h : w.viewStore p a u k v b = .ok (w', l)) : w'.drawn = w.drawn := by
  unfold World.viewStore at h
  repeat' first
    | (simp at h; done)
    | (obtain ⟨h1, h2⟩ := Prod.mk.inj (Except.ok.inj h); rw [← h1]; done)
    | (obtain ⟨_, _, h⟩ := uo h)
    | split at h
theorem pQ {p : Program} {w w' : World} {a : Addr} {v : Value} {b : Bool} {l : List Addr} (h : w.farStore p a v b = .ok (w', l)) : w'.drawn = w.drawn := by
  unfold World.farStore at h
  split at h
  · split at h
    · rename_i r hr
      obtain rfl := Except.ok.inj h
      exact oG hr
    · cases h
  · cases h
theorem pz {α : Type} (p : Program) (s : Sem α) : ∀ w : World, xl w.drawn (s.run p w) := by
  induction s with
  | pure a => intro w; exact Nat.le_refl _
  | load m a k ih =>
    intro w
    simp only [Sem.run]
    split
    · exact ih _ w
    · split
      · exact ih _ w
      · exact Nat.le_refl _
  | store m a v k ih =>
    intro w
    have hmain : xl w.drawn (match w.cell? a with
      | some _ => if w.frozen? a then .halt (.unsupported (.unsafePointer "a write to bytes that a string shares")) w else k.run p (w.setCell a v)
      | none => match w.farStore p a v (m == .atomic) with
        | .ok (w, _) => k.run p w
        | .error h => .halt h w) := by
      split
      · split
        · exact Nat.le_refl _
        · exact ih (w.setCell a v)
      · split
        · rename_i heq
          have h1 := pQ heq
          have h2 := ih ‹World›
          rwa [h1] at h2
        · exact Nat.le_refl _
    cases v <;> first | exact Nat.le_refl _ | (simp only [Sem.run]; exact hmain)
  | new o k ih => intro w; exact ih _ _
  | shape r k ih => intro w; exact ih _ _
  | freeze a n k ih =>
    intro w
    have h := ih (w.freeze a n)
    rwa [show (w.freeze a n).drawn = w.drawn by unfold World.freeze; split <;> rfl] at h
  | frozen a k ih => intro w; exact ih _ _
  | getObj r k ih =>
    intro w
    simp only [Sem.run]
    split
    · exact Nat.le_refl _
    · exact ih _ w
    · exact Nat.le_refl _
  | setObj r o k ih =>
    intro w
    simp only [Sem.run]
    split
    · exact Nat.le_refl _
    · exact ih { w with heap := w.heap.setIfInBounds r o }
    · exact Nat.le_refl _
  | choose q k ih =>
    intro w
    simp only [Sem.run]
    split
    · exact ih _ w
    · have h := ih (q.cut (w.tape w.drawn q)) { w with drawn := w.drawn + 1 }
      revert h
      cases (k (q.cut (w.tape w.drawn q))).run p { w with drawn := w.drawn + 1 } <;> exact fun h => Nat.le_of_succ_le h
  | sys c k ih =>
    intro w
    have h := ih (w.sys c).1 (w.sys c).2
    have h0 := Db w c
    simp only [Sem.run]
    revert h
    cases (k (w.sys c).1).run p (w.sys c).2 <;> exact fun h => Nat.le_trans h0 h
  | program k ih => intro w; exact ih p w
  | mark m k ih => intro w; exact ih _
  | halt h => intro w; exact Nat.le_refl _
theorem dJ {α : Type} {p : Program} {s : Sem α} {w w' : World} {a : α} (h : s.run p w = .ok a w') : w.drawn ≤ w'.drawn := by
  have := pz p s w
  rwa [h] at this
theorem run_halt {α : Type} {p : Program} {s : Sem α} {w w' : World} {a : Halt} (h : s.run p w = .halt a w') : w.drawn ≤ w'.drawn := by
  have := pz p s w
  rwa [h] at this
theorem Ar {α : Type} {p : Program} {s : Sem α} {w w' : World} {a : α} {e es : Array Event} (h : s.runT p w e = (.ok a w', es)) : w.drawn ≤ w'.drawn :=
  dJ (s := s) (by rw [← Sem.runT_fst p s w e, h])
theorem xL {α : Type} {p : Program} {s : Sem α} {w w' : World} {a : Halt} {e es : Array Event} (h : s.runT p w e = (.halt a w', es)) : w.drawn ≤ w'.drawn :=
  run_halt (s := s) (by rw [← Sem.runT_fst p s w e, h])
theorem dK {α : Type} {p : Program} {s : Sem α} {w w' : World} {a : α} {e : Array Event} (h : (s.runT p w e).1 = .ok a w') : w.drawn ≤ w'.drawn :=
  dJ (s := s) (by rw [← Sem.runT_fst p s w e, h])
theorem jn {α : Type} {p : Program} {s : Sem α} {w w' : World} {a : Halt} {e : Array Event} (h : (s.runT p w e).1 = .halt a w') : w.drawn ≤ w'.drawn :=
  run_halt (s := s) (by rw [← Sem.runT_fst p s w e, h])
def GGe (n : Nat) : GStep → Prop
  | .ended .. => True
  | .go _ w _ => n ≤ w.drawn
  | .comm _ _ _ _ w _ => n ≤ w.drawn
  | .spawn _ _ w _ => n ≤ w.drawn
  | .count _ w _ => n ≤ w.drawn
  | .timer _ _ w _ => n ≤ w.drawn
  | .alone _ _ w _ => n ≤ w.drawn
  | .newcoro _ _ _ w _ => n ≤ w.drawn
  | .coroswitch _ _ _ w _ => n ≤ w.drawn
  | .collect _ w _ => n ≤ w.drawn
  | .watch _ w _ => n ≤ w.drawn
theorem GGe.after {n : Nat} {es : Array Event} {s : GStep} (h : GGe n s) : GGe n (s.after es) := by
  cases s <;> exact h
theorem GGe.le {m n : Nat} {s : GStep} (h : GGe n s) (hm : m ≤ n) : GGe m s := by
  cases s <;> first | trivial | exact Nat.le_trans hm h
theorem GGe.ite {n : Nat} {c : Prop} [Decidable c] {a b : GStep} (h1 : GGe n a) (h2 : GGe n b) : GGe n (if c then a else b) := by
  split <;> assumption
theorem GGe.elim {α : Type} {n : Nat} {o : Option α} {a : GStep} {f : α → GStep} (h1 : GGe n a) (h2 : ∀ x, GGe n (f x)) : GGe n (o.elim a f) := by
  cases o with
  | none => exact h1
  | some x => exact h2 x
theorem jW (p : Program) (main : Bool) (fr : Frame) (callers : List Frame) (dying : Option Dying) (v : Value) (w : World) : GGe w.drawn (doReturn p main fr callers dying v w) := by
  unfold doReturn
  repeat' first
    | exact Nat.le_refl _
    | trivial
    | split
theorem lz (fr : Frame) (m : String) (w : World) : GGe w.drawn (endThrow fr m w) := Nat.le_refl _
theorem lB (p : Program) (fr : Frame) (v : Value) (w : World) : GGe w.drawn (endPrinting p fr v w) := by
  unfold endPrinting
  simp only []
  split
  · exact Nat.le_refl _
  · trivial
theorem ov (p : Program) (fr : Frame) (callers : List Frame) (dying : Option Dying) (m : String) (w : World) : GGe w.drawn (endFatal p fr callers dying m w) := by
  unfold endFatal
  simp only []
  split
  · rename_i heq
    exact dJ heq
  · trivial
  · trivial
theorem vn (w : World) (fd : Nat) (text : ByteArray) (o : Outcome) : GGe w.drawn (endWith w fd text o) := by
  unfold endWith
  repeat' first
    | exact Nat.le_refl _
    | trivial
    | split
theorem uI (p : Program) (fr : Frame) (d : Dying) (f : Fatal) (w : World) : GGe w.drawn (writeOn p fr d f w) := by
  unfold writeOn
  simp only []
  repeat' first
    | exact Nat.le_refl _
    | trivial
    | (rename_i heq; exact Ar heq)
    | (rename_i heq; exact xL heq)
    | split
theorem DN (p : Program) (fr : Frame) (d : Dying) (w : World) : GGe w.drawn (die p fr d w) := by
  unfold die
  simp only []
  repeat' first
    | exact Nat.le_refl _
    | trivial
    | (rename_i heq; exact dJ heq)
    | (rename_i heq; exact run_halt heq)
    | (rename_i heq; exact dK heq)
    | (rename_i heq; exact jn heq)
    | (rename_i heq _; exact dK heq)
    | (rename_i heq _ _ _; exact dK heq)
    | (rename_i heq _ _ _ _; exact dK heq)
    | exact uI _ _ _ _ _
    | exact vn _ _ _ _
    | (rename_i heq; exact GGe.le (lB _ _ _ _) (jn heq))
    | (refine GGe.after ?_)
    | split
theorem oO (p : Program) (fr : Frame) (callers : List Frame) (dying : Option Dying) (d : Deferred) (w : World) : GGe w.drawn (callDeferred p fr callers dying d w) := by
  unfold callDeferred
  simp only []
  refine GGe.ite trivial ?_
  · refine GGe.after ?_
    generalize hr : (Sem.runT p (invoke d.target d.args) w #[]).1 = r
    have hge : xl w.drawn r := by rw [← hr, Sem.runT_fst]; exact pz _ _ _
    clear hr
    repeat' first
      | exact hge
      | trivial
      | exact GGe.le (ov _ _ _ _ _ _) hge
      | exact GGe.le (lz _ _ _) hge
      | split
theorem xC (p : Program) (main : Bool) (fr : Frame) (callers : List Frame) (dying : Option Dying) (w : World) : GGe w.drawn (unwind p main fr callers dying w) := by
  unfold unwind
  simp only []
  repeat' first
    | exact Nat.le_refl _
    | trivial
    | (rename_i heq; exact dJ heq)
    | (rename_i heq; exact run_halt heq)
    | (rename_i heq; exact dK heq)
    | (rename_i heq; exact jn heq)
    | (rename_i heq _; exact dK heq)
    | (rename_i heq _ _ _; exact dK heq)
    | (rename_i heq _ _ _ _; exact dK heq)
    | exact oO _ _ _ _ _ _
    | exact jW _ _ _ _ _ _ _
    | exact lB _ _ _ _
    | (rename_i heq; exact GGe.le (jW _ _ _ _ _ _ _) (dK heq))
    | (refine GGe.after ?_)
    | split
theorem zr (p : Program) (fr : Frame) (callers : List Frame) (dying : Option Dying) (g : Nat) (w : World) : GGe w.drawn (early p fr callers dying g w) := by
  unfold early
  simp only []
  repeat' first
    | exact Nat.le_refl _
    | trivial
    | (rename_i heq; exact dJ heq)
    | (rename_i heq; exact run_halt heq)
    | (rename_i heq; exact dK heq)
    | (rename_i heq; exact jn heq)
    | (rename_i heq _; exact dK heq)
    | (rename_i heq _ _ _; exact dK heq)
    | (rename_i heq _ _ _ _; exact dK heq)
    | (rename_i heq _ _; exact dJ heq)
    | (rename_i heq _ _ _ _; have h1 := dJ heq; exact h1)
    | (rename_i heq _; exact dJ heq)
    | (rename_i heq _ _ _; exact dJ heq)
    | split
theorem ni (p : Program) (b : Bool) (fr : Frame) (callers : List Frame) (dying : Option Dying) (s : Sem Next) (w : World) : GGe w.drawn (stepG.apply p b fr callers dying s w) := by
  unfold stepG.apply
  simp only []
  refine GGe.after ?_
  generalize hr : (if b = true then s.runT p w #[] else (s.run p w, #[])).1 = r
  have hge : xl w.drawn r := by
    rw [← hr]
    split
    · rw [Sem.runT_fst]; exact pz _ _ _
    · exact pz _ _ _
  clear hr
  repeat' first
    | exact hge
    | trivial
    | exact GGe.le (ov _ _ _ _ _ _) hge
    | exact GGe.le (lz _ _ _) hge
    | exact GGe.le (zr _ _ _ _ _ _) hge
    | split
theorem AB (p : Program) (b : Bool) (fr : Frame) (callers : List Frame) (dying : Option Dying) (w : World) : GGe w.drawn (stepG.oper p b fr callers dying w) := by
  unfold stepG.oper
  split
  · trivial
  · split <;> exact ni _ _ _ _ _ _ _
theorem Cd (p : Program) (main b : Bool) (fr : Frame) (callers : List Frame) (dying : Option Dying) (w : World) : GGe w.drawn (stepG.exec p main b fr callers dying w) := by
  unfold stepG.exec
  simp only []
  repeat' first
    | exact Nat.le_refl _
    | trivial
    | (rename_i heq; exact dJ heq)
    | (rename_i heq; exact run_halt heq)
    | (rename_i heq; exact dK heq)
    | (rename_i heq; exact jn heq)
    | (rename_i heq _; exact dK heq)
    | (rename_i heq _ _ _; exact dK heq)
    | (rename_i heq _ _ _ _; exact dK heq)
    | exact ni _ _ _ _ _ _ _
    | exact AB _ _ _ _ _ _
    | exact jW _ _ _ _ _ _ _
    | (rename_i heq; exact GGe.le (jW _ _ _ _ _ _ _) (dK heq))
    | (rename_i heq; exact GGe.le (ni _ _ _ _ _ _ _) (dK heq))
    | (rename_i heq _ _; exact GGe.le (ni _ _ _ _ _ _ _) (dK heq))
    | (refine GGe.after ?_)
    | (refine GGe.elim ?_ (fun _ => ?_))
    | split
theorem yI (p : Program) (main : Bool) (g : Goroutine) (w : World) (b : Bool) : GGe w.drawn (stepG p main g w b) := by
  obtain ⟨fr, callers, status, dying, offers⟩ := g
  unfold stepG
  simp only []
  split
  · exact DN _ _ _ _
  · exact Cd _ _ _ _ _ _ _
  · exact xC _ _ _ _ _ _
def SGe (n : Nat) : Stepped → Prop
  | .next m => n ≤ m.world.drawn
  | .ended .. => True
theorem SGe.le {m n : Nat} {s : Stepped} (h : SGe n s) (hm : m ≤ n) : SGe m s := by
  cases s <;> first | trivial | exact Nat.le_trans hm h
theorem oE {rest : Rest} {cases : Array CommCase} {w w' : World} (h : waitingAt rest cases w = some w') : w'.drawn = w.drawn := by
  unfold waitingAt at h
  repeat' first
    | (simp at h; done)
    | (obtain rfl := Option.some.inj h; rfl)
    | split at h
theorem pT (p : Program) (rest : Rest) (gs : Array Goroutine) (i : Nat) (g : Goroutine) (cases : Array CommCase) (blocking : Bool) (shape : CommShape) (w : World) :
    SGe w.drawn (communicate p rest gs i g cases blocking shape w).1 := by
  unfold communicate
  simp only []
  repeat' first
    | exact Nat.le_refl _
    | trivial
    | (rename_i heq; exact Nat.le_of_eq (oE heq).symm)
    | (have h1 := dJ ‹Sem.run p _ w = Result.ok _ _›; exact h1)
    | (have h1 := dJ ‹Sem.run p _ w = Result.ok _ _›; have h2 := dJ ‹Sem.run p (choose _) _ = Result.ok _ _›; exact Nat.le_trans h1 h2)
    | (have h1 := dJ ‹Sem.run p _ w = Result.ok _ _›; have h2 := run_halt ‹Sem.run p _ _ = Result.halt _ _›; exact Nat.le_trans h1 h2)
    | split
theorem vR (p : Program) (gs : Array Goroutine) (rest : Rest) (w : World) : SGe w.drawn (look p gs rest w) := by
  unfold look
  simp only []
  repeat' first
    | exact Nat.le_refl _
    | trivial
    | (have h1 := dJ ‹Sem.run p _ w = Result.ok _ _›; exact h1)
    | split
theorem yK (p : Program) (m : Machine) (k : Nat) : SGe m.world.drawn (serve p m k) := by
  unfold serve
  simp only []
  repeat' first
    | exact Nat.le_refl _
    | trivial
    | split
theorem uv (w : World) (c : Nat) : (drain w c).2.drawn = w.drawn := by
  unfold drain
  split <;> rfl
theorem mL (m : Machine) (k : Nat) (t : Timer) (a b : Nat) : (retime m k t a b).2.world.drawn = m.world.drawn := by
  unfold retime
  simp only []
  split
  · exact uv _ _
  · rfl
theorem oh {m m' : Machine} {var : Addr} {f : Nat → Timer → Value × Machine} {v : Value} {n : Nat} (hf : ∀ k t, (f k t).2.world.drawn = n) (h : timerOp.named m var f = .ok (v, m')) : m'.world.drawn = n := by
  unfold timerOp.named at h
  split at h
  · have h1 := Except.ok.inj h
    have h2 := hf ‹Nat› (m.rest.timers.getD ‹Nat› default)
    rw [h1] at h2
    exact h2
  · cases h
theorem rE {m m' : Machine} {var : Addr} (h : timerOp.opened m var = some m') : m'.world.drawn = m.world.drawn := by
  unfold timerOp.opened at h
  repeat' first
    | (simp at h; done)
    | (obtain rfl := Option.some.inj h; rfl)
    | split at h
theorem qw {m m' : Machine} {op : TimerOp} {v : Value} (h : timerOp m op = .ok (v, m')) : m'.world.drawn = m.world.drawn := by
  unfold timerOp at h
  simp only [] at h
  repeat' first
    | (simp at h; done)
    | (obtain ⟨_, h2⟩ := Prod.mk.inj (Except.ok.inj h); rw [← h2]; done)
    | (obtain ⟨_, h2⟩ := Prod.mk.inj (Except.ok.inj h); rw [← h2]; rfl)
    | exact oh (fun _ _ => mL _ _ _ _ _) h
    | exact (oh (fun _ _ => mL _ _ _ _ _) h).trans (rE ‹timerOp.opened _ _ = some _›)
    | split at h
theorem Au (p : Program) (m : Machine) (i : Nat) (b : Bool) : SGe m.world.drawn (runT p m i b).1 := by
  simp only [runT]
  generalize m.gs.swapAt! _ _ = gg
  have hg := yI p (i == 0) gg.1 m.world b
  revert hg
  generalize stepG p (i == 0) gg.1 m.world b = s
  intro hg
  cases s with
  | timer g op w es =>
    simp only []
    split
    · rename_i heq
      have h1 := qw heq
      exact Nat.le_trans hg (Nat.le_of_eq h1.symm)
    · split
      · rename_i heq
        have h2 := lz g.frame ‹String› w
        rw [heq] at h2
        exact Nat.le_trans hg h2
      · trivial
    · trivial
    · trivial
  | _ =>
    simp only []
    repeat' first
      | exact hg
      | trivial
      | exact SGe.le (pT _ _ _ _ _ _ _ _ _) hg
      | exact SGe.le (vR _ _ _ _) hg
      | split
def MGe (n : Nat) : Move → Prop
  | .goroutine m _ => n ≤ m.world.drawn
  | .machine s _ => SGe n s
theorem MGe.le {m n : Nat} {s : Move} (h : MGe n s) (hm : m ≤ n) : MGe m s := by
  cases s with
  | goroutine m' i => exact Nat.le_trans hm h
  | machine s ops => exact SGe.le h hm
theorem pX (p : Program) (m : Machine) : MGe m.world.drawn (askOn p m) := by
  unfold askOn
  simp only []
  split
  · trivial
  · rename_i k world h4
    have h4 := dJ h4
    split
    · exact SGe.le (yK _ _ _) h4
    · split
      · split
        · exact h4
        · split
          · exact h4
          · split <;> trivial
      · split
        · repeat' first
            | trivial
            | (have h1 := dJ ‹Sem.run p (choose (.extern "sched.slice" 65536)) _ = .ok _ _›; have h2 := dJ ‹Sem.run p (choose (.sched _)) _ = .ok _ _›; exact Nat.le_trans h4 (Nat.le_trans h2 h1))
            | (have h2 := dJ ‹Sem.run p (choose (.sched _)) _ = .ok _ _›; exact Nat.le_trans h4 h2)
            | split
        · split
          · trivial
          · rename_i h3
            have h3 := dJ h3
            repeat' first
              | trivial
              | (have h1 := dJ ‹Sem.run p (choose (.extern "sched.slice" 65536)) _ = .ok _ _›; have h2 := dJ ‹Sem.run p (choose (.sched _)) _ = .ok _ _›; exact Nat.le_trans h4 (Nat.le_trans h3 (Nat.le_trans h2 h1)))
              | (have h2 := dJ ‹Sem.run p (choose (.sched _)) _ = .ok _ _›; exact Nat.le_trans h4 (Nat.le_trans h3 h2))
              | split
          · rename_i h3
            have h3 := dJ h3
            exact Nat.le_trans h4 h3
          · rename_i h3
            have h3 := dJ h3
            repeat' first
              | trivial
              | (have h1 := dJ ‹Sem.run p (choose (.extern "sched.slice" 65536)) _ = .ok _ _›; have h2 := dJ ‹Sem.run p (choose (.sched _)) _ = .ok _ _›; exact Nat.le_trans h4 (Nat.le_trans h3 (Nat.le_trans h2 h1)))
              | (have h2 := dJ ‹Sem.run p (choose (.sched _)) _ = .ok _ _›; exact Nat.le_trans h4 (Nat.le_trans h3 h2))
              | split
theorem Ck (p : Program) (m : Machine) : MGe m.world.drawn (ask p m) := by
  unfold ask
  split
  · split
    · trivial
    · rename_i h1
      have h1 := dJ h1
      have h2 := vR p m.gs m.rest ‹World›
      split
      · rename_i heq
        rw [heq] at h2
        exact MGe.le (pX _ _) (Nat.le_trans h1 h2)
      · exact SGe.le h2 h1
    · rename_i h1
      exact MGe.le (pX _ _) (dJ h1)
  · exact pX p m
theorem AF (p : Program) (m : Machine) : MGe m.world.drawn (move p m) := by
  unfold move
  repeat' first
    | exact Nat.le_refl _
    | trivial
    | exact Ck p _
    | split
theorem Ao (p : Program) (m : Machine) : SGe m.world.drawn (step p m) := by
  simp only [step, stepT]
  have h := AF p m
  split
  · rename_i heq
    rw [heq] at h
    exact SGe.le (Au _ _ _ _) h
  · rename_i heq
    rw [heq] at h
    exact h
theorem yH {p : Program} {m m' : Machine} (h : Steps p m m') : m.world.drawn ≤ m'.world.drawn := by
  obtain ⟨n, hn⟩ := h
  induction n generalizing m with
  | zero => simp only [runN, Stepped.next.injEq] at hn; rw [hn]; exact Nat.le_refl _
  | succ n ih =>
    simp only [runN] at hn
    have h1 := Ao p m
    split at hn
    · rename_i heq
      rw [heq] at h1
      exact Nat.le_trans h1 (ih hn)
    · rename_i h2 
      rw [hn] at h1
      exact h1
theorem uy {P : Program} {f : FuncId} {args : Array Value} {w : World} {R : Ending → World → Prop} (h : Calls P f args w fun e w' => (∃ v, e = .returned v) ∧ R e w') : Calls P f args w fun e w' => R e w' ∧ w.drawn ≤ w'.drawn := by
  intro cs
  obtain ⟨e, w', fr, ⟨⟨v, hv⟩, hR⟩, hc, hf, hl⟩ := h cs
  subst hv
  exact ⟨_, w', fr, ⟨hR, yH (m := lone (Frame.enter P f args .normal) cs w) (m' := lone fr cs w') hc⟩, hc, hf, hl⟩
theorem qE {W W' : World} (h : Below W.heap.size W W') (hd : W.drawn ≤ W'.drawn) : ∃ q os', W' = grow (W.drewN q) os' := by
  refine ⟨W'.drawn - W.drawn, W'.heap.extract W.heap.size W'.heap.size, ?_⟩
  obtain ⟨h1, h2, h3, h4, h5⟩ := h
  cases W' with
  | mk heap tape drawn os output =>
    simp only at h1 h2 h3 h4 h5 hd
    subst h1 h2 h3
    unfold grow World.drewN
    simp only [World.mk.injEq, and_true, true_and]
    refine ⟨?_, by omega⟩
    apply Array.ext_getElem?
    intro k
    by_cases hk : k < W.heap.size
    · rw [h5 k hk, Array.getElem?_append_left hk]
    · rw [Array.getElem?_append_right (by omega), Array.getElem?_extract]
      split
      · congr 1; omega
      · rw [Array.getElem?_eq_none (by omega)]
end Go.Proofs.YtmjlmloomkodpaaGreatDoor.Dr
namespace Go.Proofs.YtmjlmloomkodpaaGreatDoor.PA
open Go.RowKit Go.Proofs.ae.aw Go.Proofs.ae.aJ Go.Proofs.ae.aN
attribute [local go_sem] bm bh bA bz a6 aZ bj bf
set_option linter.unusedVariables false
set_option linter.unusedSimpArgs false
def EB : Option Int → Value
  | none => .nilIface
  | some c => .iface 0 (.int .i64 c)
theorem av : EB none = .nilIface := rfl
theorem au (c : Int) : EB (some c) = .iface 0 (.int .i64 c) := rfl
structure aY (W : World) where
  w : World
  h : Below W.heap.size W w
instance (W : World) : Inhabited (aY W) := ⟨⟨W, Below.refl _ W⟩⟩
theorem aY.cell {W : World} {a : Addr} {v : Value} (h : W.cell? a = some v) (p : aY W) : p.w.cell? a = some v := mb p.h h
theorem aY.ret {P : Program} {f : FuncId} {args : Array Value} {W : World} {p : aY W} {v : Value} (h : Calls P f args p.w fun e w' => e = .returned v ∧ Below p.w.heap.size p.w w') :
    Calls P f args p.w fun e w' => e = .returned v ∧ ∃ q : aY W, w' = q.w :=
  h.mono fun _ w' ⟨he, hb⟩ => ⟨he, ⟨w', p.h.trans (hb.mono p.h.size)⟩, rfl⟩
theorem aY.xM {P : Program} {f : FuncId} {args : Array Value} {W : World} {p : aY W} {v : Value} (h : Calls P f args p.w fun e w' => e = .returned v ∧ aK p.w w') :
    Calls P f args p.w fun e w' => e = .returned v ∧ ∃ q : aY W, w' = q.w :=
  h.mono fun _ w' ⟨he, ⟨n, hn⟩⟩ => ⟨he, ⟨w', by subst hn; exact af p.h n⟩, rfl⟩
theorem dw {P : Program} {id : Nat} {Q : Exit → Act → World → Prop} {a : Act} {W : World} {l : List Oper} (hm : P.follows .mixedOrders = true) (hB : Region.lexB .any l.toArray = true)
    (h : wpQuiet P l.toArray (fun w' => ∃ p : aY W, w' = p.w) (fun a' => ∀ w', (∃ p : aY W, w' = p.w) → Q .normal a' w') l a) : (Code.region id l.toArray true).wp P Q a W :=
  wp_region_quiet (C := fun w' => ∃ p : aY W, w' = p.w) hm hB ⟨⟨_, (Below.refl _ W).drew⟩, rfl⟩ (by simpa using h)
theorem dQ {α : Type} {d : Kd α} {w W : World} {A : Option Addr} {n : Nat} {xs : List α} (h : d.C w A n xs) (hb : Below w.heap.size w W) (p : aY W) : d.C p.w A n xs := Kd.ay h (hb.trans (p.h.mono hb.size))
theorem jo {k : IntKind} {e : Nat} {w w1 : World} {base : Nat} {v u : Value} {xs : List Int} (h : Kd.R (Kd.int k) e w base (fun _ => True) v xs) (hg : w.grownBy w1 u.ownBlock) (hne : gZ v u) : Kd.R (Kd.int k) e w1 base (fun _ => True) v xs :=
  Kd.bT (Kd.Cq (Kd.jY rfl h) hg (fun b hb he => hne b hb.symm he.symm)) (fun _ _ => trivial)
theorem oT {k : IntKind} {e : Nat} {w w1 : World} {base g : Nat} {row : Option Nat} {v : Value} {xs : List Int} (h : Kd.R (Kd.int k) e w base (fun _ => True) v xs) (hk : cV w w1 g row) (hg : some g ≠ v.ownBlock) (hne : ∀ b, v.ownBlock = some b → row ≠ some b) : Kd.R (Kd.int k) e w1 base (fun _ => True) v xs :=
  Kd.bT (Kd.qa (Kd.jY rfl h) (fun b hb hlt => hk.2 b hlt (fun e => hg (e ▸ hb)) (fun e => hne b hb.symm e.symm))) (fun _ _ => trivial)
theorem jq {k : IntKind} {e : Nat} {w w1 : World} {base : Nat} {v : Value} {xs : List Int} (h : Kd.R (Kd.int k) e w base (fun _ => True) v xs) (hb : Below w.heap.size w w1) : Kd.R (Kd.int k) e w1 base (fun _ => True) v xs := Kd.cB h hb
theorem my {k : IntKind} {e : Nat} {W : World} {base : Nat} {v v1 v' : Value} {xs : List Int} (h : gZ v v') (hat : v1.ownBlock = v.ownBlock ∨ ∃ b, v1.ownBlock = some b ∧ W.heap.size ≤ b) (ho : Kd.R (Kd.int k) e W base (fun _ => True) v' xs) : gZ v1 v' := by
  obtain ⟨inner, hown⟩ := Kd.qc ho
  exact xW h hat hown
theorem yS {k : IntKind} {e : Nat} {W : World} {base : Nat} {v v' : Value} {xs : List Int} (hv : ∀ b, v.ownBlock = some b → W.heap.size ≤ b) (ho : Kd.R (Kd.int k) e W base (fun _ => True) v' xs) : gZ v v' := fun b hb hb' => by
  have := Kd.ki ho b hb'
  have := hv b hb
  omega
theorem gI {k : IntKind} {e : Nat} {w : World} {base n c : Nat} {A : Option Addr} {xs : List Int} (h : Kd.R (Kd.int k) e w base (fun _ => True) (.slice A n c) xs) : Kd.C (Kd.int k) w A xs.length xs := (Kd.bX h).2.2
section
variable {P : Program} {ops : Array Oper} {md : Region.Mode} {C : World → Prop}
def pq (P : Program) (md : Region.Mode) (ops : Array Oper) (C : World → Prop) (n : Nat) (L : Array Bool → Act → Prop) : Nat → Array Bool → Act → Prop
  | 0, listed, a => L listed a
  | f + 1, listed, a =>
    Region.ready md ops listed ≠ [] ∧ ∀ i ∈ Region.ready md ops listed, i < n ∧ qOp P ops C i (pq P md ops C n L f (listed.setIfInBounds i true)) a
theorem po {n g : Nat} {L : Array Bool → Act → Prop} {Q' : Exit → Act → World → Prop} (hL : ∀ listed a w, C w → L listed a → wpAny P md ops Q' g listed a w) :
    ∀ (f : Nat) (listed : Array Bool) (a : Act) (w : World), C w → pq P md ops C n L f listed a → wpAny P md ops Q' (f + g) listed a w := by
  intro f
  induction f with
  | zero => intro listed a w hw h; rw [Nat.zero_add]; exact hL _ _ _ hw h
  | succ f ih =>
    intro listed a w hw h
    rw [show f + 1 + g = (f + g) + 1 by omega]
    exact ⟨fun h0 => absurd h0 h.1, fun i hi => wpOp_of_qOp hw (fun a' w' hw' h' => ih _ a' w' hw' h') (h.2 i hi).2⟩
theorem rp {n i : Nat} {oi : Oper} {v : Value} {L : Array Bool → Act → Prop} (hi : ops[i]? = some oi) (hsel : ∀ (j : Nat) (o : Oper) cs b, ops[j]? = some o → o.op ≠ .select cs b)
    (hs : Region.sinkB md ops n = true) (hc : Region.chainB md ops n = true) (hn : n < ops.size) (hin : i < n)
    (hdone : ∀ listed a, L listed a → ∀ j ∈ Region.ready md ops listed, n ≤ j) :
    ∀ (f : Nat) (listed : Array Bool) (a : Act), HeadInv md ops n listed →
      (∀ j oj, ops[j]? = some oj → j ≠ i → listed.getD j true = false → (∀ e ∈ oj.after, Region.binds md e = true → e.on ≠ i) → oi.apart ops oj = true) →
      i ∈ Region.ready md ops listed → YieldsIn P ops C oi v a →
      pq P md ops C n L f (listed.setIfInBounds i true) (a.put oi.dst v) → pq P md ops C n L (f + 1) listed a := by
  intro f
  induction f with
  | zero =>
    intro listed a inv _ hr hy H
    have hun := (mem_ready.1 hr).1
    refine ⟨fun h => (by rw [h] at hr; cases hr), fun j hj => ?_⟩
    have hjn : j < n := Nat.lt_of_not_le fun h => tail_waits hs hc hn inv _ i rfl hin hun j h hj
    refine ⟨hjn, ?_⟩
    by_cases hji : j = i
    · subst hji; exact hy.qOp hi H
    · have := hdone _ _ H j (ready_mono hj hji)
      omega
  | succ f ih =>
    intro listed a inv hfree hr hy H
    have hun := (mem_ready.1 hr).1
    refine ⟨fun h => (by rw [h] at hr; cases hr), fun j hj => ?_⟩
    have hjn : j < n := Nat.lt_of_not_le fun h => tail_waits hs hc hn inv _ i rfl hin hun j h hj
    refine ⟨hjn, ?_⟩
    by_cases hji : j = i
    · subst hji; exact hy.qOp hi H
    · have h1 := (H.2 j (ready_mono hj hji)).2
      obtain ⟨hjun, oj, hoj, hall⟩ := mem_ready.1 hj
      have hnot : ∀ e ∈ oj.after, Region.binds md e = true → e.on ≠ i := fun e he hb heq => by
        have h1 := hall e he hb
        rw [heq, getD_both hun] at h1
        cases h1
      have h2 := qOp_put hoj (hfree j oj hoj hji hjun hnot) (fun cs b => hsel i oi cs b hi) (fun cs b => hsel j oj cs b hoj) hy h1
      have hfree' : ∀ k ok, ops[k]? = some ok → k ≠ i → (listed.setIfInBounds j true).getD k true = false →
          (∀ e ∈ ok.after, Region.binds md e = true → e.on ≠ i) → oi.apart ops ok = true := fun k ok hk hki hun hno => by
        refine hfree k ok hk hki ?_ hno
        by_cases hjk : j = k
        · subst hjk; exact hjun
        · rw [getD_set_ne true hjk] at hun; exact hun
      refine qOp_mono (fun a' h3 => ih (listed.setIfInBounds j true) a' (inv.set hj hjn) hfree' (ready_mono hr (Ne.symm hji)) h3.1 ?_) h2
      rw [Array.setIfInBounds_comm _ _ hji]
      exact h3.2
theorem uJ {n g : Nat} {Lq : Act → Prop} (hsel : Region.noSelect ops = true) (hs : Region.sinkB md ops n = true) (hc : Region.chainB md ops n = true) (hn : n < ops.size) :
    ∀ (l : List Oper) (k : Nat) (listed : Array Bool) (a : Act), (∀ j, j < l.length → l[j]? = ops[k + j]?) → k + l.length = n → HeadInv md ops n listed →
    Region.lexHead md ops g l.length k listed = true → wpQuiet P ops C Lq l a →
    pq P md ops C n (fun listed' a' => Region.seqB md ops g n listed' = true ∧ Lq a') l.length listed a := by
  intro l
  induction l with
  | nil =>
    intro k listed a _ hk _ hB h
    have : k = n := by simpa using hk
    subst this
    exact ⟨by simpa [Region.lexHead] using hB, h⟩
  | cons o l ih =>
    intro k listed a hl hk inv hB h
    have h0 : ops[k]? = some o := by simpa using (hl 0 (by simp)).symm
    simp only [List.length_cons, Region.lexHead, Bool.and_eq_true] at hB
    obtain ⟨⟨hr, hf⟩, hB'⟩ := hB
    have hkn : k < n := by simp only [List.length_cons] at hk; omega
    have hr' : k ∈ Region.ready md ops listed := by simpa using hr
    have hst : qOp P ops C k (wpQuiet P ops C Lq l) a := by unfold qOp; simp only [h0]; exact h
    obtain ⟨v, hy, hK⟩ := yieldsIn_of_qOp h0 hst
    exact rp h0 (Region.noSelect_spec hsel) hs hc hn hkn (fun listed' a' hL => seqB_ready hL.1) l.length listed a inv (Region.free_spec h0 hf) hr' hy
      (ih (k + 1) _ _ (fun j hj => by have := hl (j + 1) (by simp; omega); simpa [Nat.add_assoc, Nat.add_comm 1 j] using this) (by simp only [List.length_cons] at hk; omega) (inv.set hr' hkn) hB' hK)
end
theorem iR {P : Program} {id : Nat} {Q : Exit → Act → World → Prop} {a : Act} {W : World} {l : List Oper} (n : Nat) (hm : P.follows .mixedOrders = true) (hB : Region.lexTailB .any l.toArray n = true)
    (h : wpQuiet P l.toArray (fun w' => ∃ p : aY W, w' = p.w) (fun a' => ∀ p : aY W, wpList P l.toArray Q (l.drop n) a' p.w) (l.take n) a) : (Code.region id l.toArray true).wp P Q a W := by
  simp only [Region.lexTailB, Bool.and_eq_true, decide_eq_true_eq] at hB
  obtain ⟨⟨⟨⟨hsel, hn⟩, hs⟩, hc⟩, hlex⟩ := hB
  have hn' : n < l.length := by simpa using hn
  have htl : (l.take n).length = n := by simp; omega
  have hdl : (l.drop n).length = l.toArray.size - n := by simp
  have inv0 : HeadInv .any l.toArray n (Array.replicate l.toArray.size false) :=
    ⟨by simp, fun j oj _ hl => (by rw [getD_replicate_false] at hl; cases hl), fun t _ ht => getD_in (by simpa using ht) (getD_replicate_false _ _)⟩
  have H := uJ (md := .any) (g := l.toArray.size - n) hsel hs hc hn (l.take n) 0 _ a (fun j hj => by
    have hj' : j < n := by rw [htl] at hj; exact hj
    simp [hj']) (by simpa using htl) inv0 (by rw [htl]; exact hlex) h
  refine wp_region_any hm ?_
  have := po (Q' := Q) (g := l.toArray.size - n) (fun listed a' w' hw' hL => by
    obtain ⟨p, rfl⟩ := hw'
    have := wpAny_of_seq (md := .any) (Q' := Q) (l.drop n) n listed a' p.w (fun j => by simp [List.getElem?_drop]) (by rw [hdl]; exact hL.1) (hL.2 p)
    rwa [hdl] at this) _ _ _ _ ⟨⟨_, (Below.refl _ W).drew⟩, rfl⟩ H
  rw [htl, show n + (l.toArray.size - n) = l.toArray.size by omega] at this
  exact this
def gA (P : Program) (o : Oper) (a : Act) (w : World) (G : Value → World → Prop) : Prop :=
  match (execOp a.eval o).run P w with
  | .ok (.value v) w' => G v w'
  | .ok .skip w' => G undef w'
  | .ok (.enter f args) w' => Calls P f args w' fun e w'' => ∃ v, e = .returned v ∧ G v w''
  | _ => False
theorem gA.wp {P : Program} {o : Oper} {a : Act} {w : World} {G : Value → World → Prop} {K : Act → World → Prop} {Q : Exit → Act → World → Prop} (h : gA P o a w G) (hk : ∀ v w', G v w' → K (a.put o.dst v) w') : o.wp P a w K Q := by
  unfold gA at h
  unfold Oper.wp
  generalize (execOp a.eval o).run P w = r at h ⊢
  cases r with
  | ok n w' =>
    cases n <;> simp only [Oper.upon] at h ⊢
    case value v => exact hk _ _ h
    case skip => exact hk _ _ h
    case enter f args => exact h.mono fun e w'' ⟨v, he, hg⟩ => by subst he; exact hk _ _ hg
    all_goals exact h.elim
  | halt x w' => exact h.elim
def jm (L : Nat → Bool) (i : Nat) : Nat → Bool := fun j => if j = i then true else L j
def l4 (vs : Nat → Value) (i : Nat) (v : Value) : Nat → Value := fun j => if j = i then v else vs j
def mu (l : List Oper) (t : Nat) : Option Nat := (List.range l.length).find? fun j => ((l[j]?).bind (·.dst)) == some t
def oL (l : List Oper) (a0 : Act) (L : Nat → Bool) (vs : Nat → Value) : Act :=
  { a0 with tmps := a0.tmps.mapIdx fun t x => match mu l t with | some j => if L j then vs j else x | none => x }
def CN (l : List Oper) : Bool := (List.range l.length).all fun j => match (l[j]?).bind (·.dst) with | some t => decide (mu l t = some j) | none => true
theorem tE {l : List Oper} {t j : Nat} (h : mu l t = some j) : (l[j]?).bind (·.dst) = some t := by
  have := List.find?_some h
  simpa using this
theorem zm {l : List Oper} {a0 : Act} {L : Nat → Bool} {vs : Nat → Value} {i : Nat} {o : Oper} {v : Value} (hd : CN l = true) (ho : l[i]? = some o) : (oL l a0 L vs).put o.dst v = oL l a0 (jm L i) (l4 vs i v) := by
  have hi : i < l.length := (List.getElem?_eq_some_iff.1 ho).1
  have h1 := List.all_eq_true.1 hd i (List.mem_range.2 hi)
  rw [ho, Option.bind_some] at h1
  have hpt : ∀ t, (match mu l t with | some j => if jm L i j then l4 vs i v j else ((a0.tmps)[t]?).getD undef | none => ((a0.tmps)[t]?).getD undef) = if o.dst = some t then v else (match mu l t with | some j => if L j then vs j else ((a0.tmps)[t]?).getD undef | none => ((a0.tmps)[t]?).getD undef) := by
    intro t
    cases hs : mu l t with
    | none =>
      have hne : o.dst ≠ some t := fun e => by
        rw [e] at h1
        simp only [decide_eq_true_eq] at h1
        rw [hs] at h1; cases h1
      simp [hne]
    | some j =>
      have hj := tE hs
      by_cases hji : j = i
      · subst hji
        rw [ho, Option.bind_some] at hj
        simp [hj, jm, l4]
      · have : o.dst ≠ some t := fun e => by
          rw [e] at h1
          simp only [decide_eq_true_eq] at h1
          rw [hs] at h1
          exact hji (Option.some.inj h1)
        simp [this, jm, l4, hji]
  cases hdst : o.dst with
  | none =>
    unfold oL Act.put
    simp only [Act.mk.injEq, and_true]
    apply Array.ext_getElem?
    intro t
    simp only [Array.getElem?_mapIdx]
    have := hpt t
    rw [hdst] at this
    cases hx : a0.tmps[t]? with
    | none => rfl
    | some x =>
      rw [hx] at this
      simp only [Option.getD_some, reduceCtorEq, if_false] at this
      simp only [Option.map_some]
      rw [this]
  | some d =>
    unfold oL Act.put
    simp only [Act.mk.injEq, and_true]
    apply Array.ext_getElem?
    intro t
    rw [Array.getElem?_setIfInBounds]
    simp only [Array.getElem?_mapIdx, Array.size_mapIdx]
    have := hpt t
    rw [hdst] at this
    cases hx : a0.tmps[t]? with
    | none =>
      have hlt : ¬ t < a0.tmps.size := by simpa using hx
      by_cases e : d = t
      · subst e; simp [hlt]
      · simp [e]
    | some x =>
      have hlt : t < a0.tmps.size := (Array.getElem?_eq_some_iff.1 hx).1
      rw [hx] at this
      simp only [Option.getD_some, Option.some.injEq] at this
      simp only [Option.map_some]
      rw [this]
      by_cases e : d = t
      · subst e; simp [hlt]
      · simp [e]
def DM (l : List Oper) : Bool := (List.range l.length).all fun j => match l[j]? with | some o => o.guard.isNone && o.after.all (fun e => !Region.binds .any e || decide (e.on < j)) | none => true
theorem qp {P : Program} {id : Nat} {Q : Exit → Act → World → Prop} {a0 : Act} {W : World} {l : List Oper} (hm : P.follows .mixedOrders = true) (hd : CN l = true) (he : DM l = true)
    (fr : (Nat → Bool) → (Nat → Value) → Act) (hfr : ∀ L vs, oL l a0 L vs = fr L vs) (J : (Nat → Bool) → (Nat → Value) → World → Prop) (h0 : ∀ vs, J (fun _ => false) vs { W with drawn := W.drawn + 1 })
    (hstep : ∀ (i : Nat) (o : Oper), l[i]? = some o → ∀ (L : Nat → Bool) (vs : Nat → Value) (w : World), L i = false → (∀ e ∈ o.after, Region.binds .any e = true → L e.on = true) → J L vs w → gA P o (fr L vs) w (fun v w' => J (jm L i) (l4 vs i v) w'))
    (hfin : ∀ (L : Nat → Bool) (vs : Nat → Value) (w : World), (∀ j, j < l.length → L j = true) → J L vs w → Q .normal (fr (fun _ => true) vs) w) : (Code.region id l.toArray true).wp P Q a0 W := by
  refine wp_region_any hm ?_
  have hguard : ∀ (i : Nat) (o : Oper), l[i]? = some o → o.guard = none ∧ ∀ e ∈ o.after, Region.binds .any e = true → e.on < i := fun i o ho => by
    have hi : i < l.length := (List.getElem?_eq_some_iff.1 ho).1
    have h1 := List.all_eq_true.1 he i (List.mem_range.2 hi)
    rw [ho] at h1
    simp only [Bool.and_eq_true, Option.isNone_iff_eq_none] at h1
    refine ⟨h1.1, fun e hm hb => ?_⟩
    have := Array.all_eq_true'.1 h1.2 e hm
    rw [hb] at this
    simpa using this
  have hfr0 : oL l a0 (fun _ => false) (fun _ => undef) = a0 := by
    unfold oL
    cases a0 with
    | mk tmps defers =>
      simp only [Act.mk.injEq, and_true]
      apply Array.ext_getElem?
      intro t
      simp only [Array.getElem?_mapIdx]
      cases tmps[t]? with
      | none => rfl
      | some x => simp only [Option.map_some]; split <;> simp
  have main : ∀ (f : Nat) (listed : Array Bool) (vs : Nat → Value) (w : World), listed.size = l.length → ((List.range l.length).countP fun j => !listed.getD j false) = f → J (fun j => listed.getD j false) vs w → wpAny P .any l.toArray Q f listed (oL l a0 (fun j => listed.getD j false) vs) w := by
    intro f
    induction f with
    | zero =>
      intro listed vs w hsz hcnt hJ
      have hall : ∀ j, j < l.length → listed.getD j false = true := fun j hj => by
        have := List.countP_eq_zero.1 hcnt j (List.mem_range.2 hj)
        simpa using this
      refine ⟨?_, ?_⟩
      · rw [List.eq_nil_iff_forall_not_mem]
        intro i hi
        obtain ⟨h1, o, ho, _⟩ := mem_ready.1 hi
        have hil : i < l.length := by
          have := (Array.getElem?_eq_some_iff.1 ho).1
          simpa using this
        have h2 := hall i hil
        rw [getD_both h1] at h2
        cases h2
      · have := hfin _ _ _ hall hJ
        have e : oL l a0 (fun j => listed.getD j false) vs = oL l a0 (fun _ => true) vs := by
          unfold oL
          congr 1
          congr 1
          funext t x
          cases hs : mu l t with
          | none => rfl
          | some j =>
            have hj : j < l.length := by
              have := List.mem_of_find?_eq_some hs
              simpa using this
            simp [hall j hj]
        rw [e, hfr]; exact this
    | succ f ih =>
      intro listed vs w hsz hcnt hJ
      have hex : ∃ i, i < l.length ∧ listed.getD i false = false ∧ ∀ j, j < i → listed.getD j false = true := by
        have : ∃ i, i < l.length ∧ listed.getD i false = false := by
          have h1 : 0 < (List.range l.length).countP fun j => !listed.getD j false := by omega
          obtain ⟨i, hi, hp⟩ := List.countP_pos_iff.1 h1
          exact ⟨i, List.mem_range.1 hi, by simpa using hp⟩
        obtain ⟨i, hi, hp⟩ := this
        induction i using Nat.strongRecOn with
        | _ i ihi =>
          by_cases hj : ∃ j, j < i ∧ listed.getD j false = false
          · obtain ⟨j, hj, hp2⟩ := hj
            exact ihi j hj (by omega) hp2
          · exact ⟨i, hi, hp, fun j hji => by
              cases h : listed.getD j false with
              | true => rfl
              | false => exact absurd ⟨j, hji, h⟩ hj⟩
      obtain ⟨i0, hi0, hp0, hlow⟩ := hex
      have hrdy : i0 ∈ Region.ready .any l.toArray listed := by
        refine mem_ready.2 ⟨getD_in (by omega) hp0, l[i0], by simp [hi0], fun e hm hb => hlow _ ((hguard i0 _ (by simp [hi0])).2 e hm hb)⟩
      refine ⟨fun h => (by rw [h] at hrdy; cases hrdy), fun i hi => ?_⟩
      obtain ⟨h1, o, ho, hdep⟩ := mem_ready.1 hi
      have ho' : l[i]? = some o := by simpa using ho
      have hil : i < l.length := (List.getElem?_eq_some_iff.1 ho').1
      have hup : (fun j => (listed.setIfInBounds i true).getD j false) = jm (fun j => listed.getD j false) i := by
        funext j
        unfold jm
        by_cases hji : j = i
        · subst hji; simp [hsz, hil]
        · rw [getD_set_ne false (Ne.symm hji), if_neg hji]
      unfold wpOp
      simp only [ho]
      rw [show Region.wanted o (yielded l.toArray (oL l a0 (fun j => listed.getD j false) vs).tmps) = true by simp [Region.wanted, (hguard i o ho').1], if_pos rfl]
      refine .inl (gA.wp (by rw [hfr]; exact hstep i o ho' _ vs w (getD_both h1) hdep hJ) fun v w' hJ' => ?_)
      rw [zm hd ho', ← hup]
      refine ih _ _ _ (by simp [hsz]) ?_ (by rw [hup]; exact hJ')
      have hcount : ∀ (m : List Nat), m.Nodup → i ∈ m → (m.countP fun j => !(listed.setIfInBounds i true).getD j false) + 1 = m.countP fun j => !listed.getD j false := by
        intro m
        induction m with
        | nil => intro _ h; cases h
        | cons b t iht =>
          intro hn hm
          obtain ⟨hb, hn⟩ := List.nodup_cons.1 hn
          have ex : ∀ j, j ≠ i → (listed.setIfInBounds i true).getD j false = listed.getD j false := fun j hj => getD_set_ne false (Ne.symm hj)
          rcases List.mem_cons.1 hm with rfl | hm
          · rw [List.countP_cons, List.countP_cons]
            have e2 : (t.countP fun j => !(listed.setIfInBounds i true).getD j false) = t.countP fun j => !listed.getD j false := by
              apply List.countP_congr
              intro j hj
              rw [ex j (fun e => hb (e ▸ hj))]
            have e3 : (listed.setIfInBounds i true).getD i false = true := by simp [hsz, hil]
            have e4 : listed.getD i false = false := getD_both h1
            rw [e2, e3, e4]; simp
          · have := iht hn hm
            rw [List.countP_cons, List.countP_cons, ex b (fun e => hb (e ▸ hm))]
            omega
      have := hcount _ List.nodup_range (List.mem_range.2 hil)
      omega
  have := main l.length (Array.replicate l.length false) (fun _ => undef) { W with drawn := W.drawn + 1 } (by simp) (by
    rw [List.countP_eq_length.2 (fun j hj => by rw [getD_replicate_false]; rfl), List.length_range]) (by
    have e : (fun j => (Array.replicate l.length false).getD j false) = fun _ => false := by funext j; exact getD_replicate_false _ _
    rw [e]; exact h0 _)
  have e : (fun j => (Array.replicate l.length false).getD j false) = fun _ => false := by funext j; exact getD_replicate_false _ _
  rw [e, hfr0] at this
  simpa using this
structure ee (w : World) : Prop where
  lt64 : 0 < w.heap.size
  tab64 : ∀ j, j < Lib.deBruijn64tab.length → w.cell? ⟨0, j, none⟩ = some (.int .u8 (Lib.deBruijn64tab.getD j 0))
theorem ee.below {w w' : World} (h : ee w) (hb : Below w.heap.size w w') : ee w' :=
  ⟨Nat.lt_of_lt_of_le h.lt64 hb.size, fun j hj => (hb.cell (p := ⟨0, j, none⟩) h.lt64).trans (h.tab64 j hj)⟩
theorem iV : (Tryz.prog.info? 3).map (fun i => (i.zero, i.size, i.bytes)) = some (some (.int .i64 0), 1, 8) := by kernel_rfl
theorem rI : (Tryz.prog.info? 152).map (fun i => (i.zero, i.size, i.bytes)) = some (some (.agg #[(.int .i64 0), (.int .i64 0), (.int .i64 0), (.int .u64 0)]), 4, 32) := by kernel_rfl
theorem AX : (Tryz.prog.info? 170).map (fun i => (i.zero, i.size, i.bytes)) = some (some (.agg #[(.int .i64 0), (.int .i64 0), (.int .i64 0), (.int .i64 0)]), 4, 32) := by kernel_rfl
structure dh where
  f0 : Int
  f1 : Int
  f2 : Int
  f3 : Int
def z152 : dh := ⟨(0 : Int), (0 : Int), (0 : Int), (0 : Int)⟩
def fZ : Kd dh := Kd.iso (Kd.pair (Kd.int .i64) (Kd.pair (Kd.int .i64) (Kd.pair (Kd.int .i64) (Kd.int .u64)))) (fun x : dh => (x.f0, x.f1, x.f2, x.f3))
theorem yf {w : World} {x : dh} {cs : List Value} (h : fZ.K w x cs) : cs = [.int .i64 x.f0, .int .i64 x.f1, .int .i64 x.f2, .int .u64 x.f3] := by
  obtain ⟨_, _, rfl, rfl, ⟨_, _, rfl, rfl, ⟨_, _, rfl, rfl, rfl⟩⟩⟩ := h
  exact rfl
theorem tY (w : World) (base : Nat) (ok : Nat → Prop) (x : dh)  : fZ.M w base ok x [.int .i64 x.f0, .int .i64 x.f1, .int .i64 x.f2, .int .u64 x.f3] := ⟨[.int .i64 x.f0], [.int .i64 x.f1, .int .i64 x.f2, .int .u64 x.f3], rfl, rfl, ⟨[.int .i64 x.f1], [.int .i64 x.f2, .int .u64 x.f3], rfl, rfl, ⟨[.int .i64 x.f2], [.int .u64 x.f3], rfl, rfl, rfl⟩⟩⟩
def db (xs : List dh) (i : Int) : dh := xs.getD i.toNat z152
theorem pj {w : World} {A : Option Addr} {n : Nat} {xs : List dh} (h : Kd.C fZ w A n xs) (i : Int) (h0 : 0 ≤ i) (h1 : i < n) : ∃ ad , A = some ad ∧ w.cell? (ad.add (i.toNat * 4)) = some (.int .i64 (db xs i).f0) ∧ w.cell? ⟨(ad.add (i.toNat * 4)).block, (ad.add (i.toNat * 4)).off + 1, none⟩ = some (.int .i64 (db xs i).f1) ∧ w.cell? ⟨(ad.add (i.toNat * 4)).block, (ad.add (i.toNat * 4)).off + 2, none⟩ = some (.int .i64 (db xs i).f2) ∧ w.cell? ⟨(ad.add (i.toNat * 4)).block, (ad.add (i.toNat * 4)).off + 3, none⟩ = some (.int .u64 (db xs i).f3) := by
  obtain ⟨ad, c, e, _, hK, hc0⟩ := Kd.Ad h z152 i h0 h1
  have hc : ∀ j u, c[j]? = some u → w.cell? (ad.add (i.toNat * 4 + j)) = some u := hc0
  obtain rfl := yf hK
  exact ⟨ad, e, hc 0 _ rfl, by rw [← fv _ _ 1 (by omega)]; exact hc 1 _ rfl, by rw [← fv _ _ 2 (by omega)]; exact hc 2 _ rfl, by rw [← fv _ _ 3 (by omega)]; exact hc 3 _ rfl⟩
structure S28 where
  f0 : Int
  f1 : Int
  f2 : (List Int)
  f3 : (List Int)
def z28 : S28 := ⟨(0 : Int), (0 : Int), ([] : List Int), ([] : List Int)⟩
def k28 : Kd S28 := Kd.iso (Kd.pair (Kd.int .i64) (Kd.pair (Kd.int .i64) (Kd.pair (Kd.slice 3 (Kd.int .i64)) (Kd.slice 3 (Kd.int .i64))))) (fun x : S28 => (x.f0, x.f1, x.f2, x.f3))
theorem tX {w : World} {x : S28} {cs : List Value} (h : k28.K w x cs) : ∃ A2 c2 A3 c3, cs = [.int .i64 x.f0, .int .i64 x.f1, .slice A2 x.f2.length c2, .slice A3 x.f3.length c3] ∧ x.f2.length ≤ c2 ∧ (Kd.int .i64).C w A2 x.f2.length x.f2 ∧ x.f3.length ≤ c3 ∧ (Kd.int .i64).C w A3 x.f3.length x.f3 := by
  obtain ⟨_, _, rfl, rfl, ⟨_, _, rfl, rfl, ⟨_, _, rfl, ⟨A2, c2, rfl, l2, g2⟩, ⟨A3, c3, rfl, l3, g3⟩⟩⟩⟩ := h
  exact ⟨A2, c2, A3, c3, rfl, l2, g2, l3, g3⟩
theorem yd {w : World} {base : Nat} {ok : Nat → Prop} {x : S28} {cs : List Value} (h : k28.M w base ok x cs) : ∃ v2 v3, cs = [.int .i64 x.f0, .int .i64 x.f1, v2, v3] ∧ (Kd.int .i64).R 3 w base ok v2 x.f2 ∧ (Kd.int .i64).R 3 w base ok v3 x.f3 := by
  obtain ⟨_, _, rfl, rfl, ⟨_, _, rfl, rfl, ⟨_, _, rfl, ⟨v2, rfl, g2⟩, ⟨v3, rfl, g3⟩⟩⟩⟩ := h
  exact ⟨v2, v3, rfl, g2, g3⟩
theorem AU (w : World) (base : Nat) (ok : Nat → Prop) (x : S28) {v2 : Value} (g2 : (Kd.int .i64).R 3 w base ok v2 x.f2) {v3 : Value} (g3 : (Kd.int .i64).R 3 w base ok v3 x.f3) : k28.M w base ok x [.int .i64 x.f0, .int .i64 x.f1, v2, v3] := ⟨[.int .i64 x.f0], [.int .i64 x.f1, v2, v3], rfl, rfl, ⟨[.int .i64 x.f1], [v2, v3], rfl, rfl, ⟨[v2], [v3], rfl, ⟨v2, rfl, g2⟩, ⟨v3, rfl, g3⟩⟩⟩⟩
def bI (xs : List S28) (i : Int) : S28 := xs.getD i.toNat z28
theorem DT {w : World} {A : Option Addr} {n : Nat} {xs : List S28} (h : Kd.C k28 w A n xs) (i : Int) (h0 : 0 ≤ i) (h1 : i < n) : ∃ ad A2 c2 A3 c3, A = some ad ∧ w.cell? (ad.add (i.toNat * 4)) = some (.int .i64 (bI xs i).f0) ∧ w.cell? ⟨(ad.add (i.toNat * 4)).block, (ad.add (i.toNat * 4)).off + 1, none⟩ = some (.int .i64 (bI xs i).f1) ∧ w.cell? ⟨(ad.add (i.toNat * 4)).block, (ad.add (i.toNat * 4)).off + 2, none⟩ = some (.slice A2 (bI xs i).f2.length c2) ∧ w.cell? ⟨(ad.add (i.toNat * 4)).block, (ad.add (i.toNat * 4)).off + 3, none⟩ = some (.slice A3 (bI xs i).f3.length c3) ∧ (bI xs i).f2.length ≤ c2 ∧ (Kd.int .i64).C w A2 (bI xs i).f2.length (bI xs i).f2 ∧ (bI xs i).f3.length ≤ c3 ∧ (Kd.int .i64).C w A3 (bI xs i).f3.length (bI xs i).f3 := by
  obtain ⟨ad, c, e, _, hK, hc0⟩ := Kd.Ad h z28 i h0 h1
  have hc : ∀ j u, c[j]? = some u → w.cell? (ad.add (i.toNat * 4 + j)) = some u := hc0
  obtain ⟨A2, c2, A3, c3, rfl, l2, g2, l3, g3⟩ := tX hK
  exact ⟨ad, A2, c2, A3, c3, e, hc 0 _ rfl, by rw [← fv _ _ 1 (by omega)]; exact hc 1 _ rfl, by rw [← fv _ _ 2 (by omega)]; exact hc 2 _ rfl, by rw [← fv _ _ 3 (by omega)]; exact hc 3 _ rfl, l2, g2, l3, g3⟩
structure fx where
  f0 : Int
  f1 : Int
  f2 : Int
  f3 : Int
def Ed : fx := ⟨(0 : Int), (0 : Int), (0 : Int), (0 : Int)⟩
def oK : Kd fx := Kd.iso (Kd.pair (Kd.int .i64) (Kd.pair (Kd.int .i64) (Kd.pair (Kd.int .i64) (Kd.int .i64)))) (fun x : fx => (x.f0, x.f1, x.f2, x.f3))
theorem ye {w : World} {x : fx} {cs : List Value} (h : oK.K w x cs) : cs = [.int .i64 x.f0, .int .i64 x.f1, .int .i64 x.f2, .int .i64 x.f3] := by
  obtain ⟨_, _, rfl, rfl, ⟨_, _, rfl, rfl, ⟨_, _, rfl, rfl, rfl⟩⟩⟩ := h
  exact rfl
theorem yZ (w : World) (base : Nat) (ok : Nat → Prop) (x : fx)  : oK.M w base ok x [.int .i64 x.f0, .int .i64 x.f1, .int .i64 x.f2, .int .i64 x.f3] := ⟨[.int .i64 x.f0], [.int .i64 x.f1, .int .i64 x.f2, .int .i64 x.f3], rfl, rfl, ⟨[.int .i64 x.f1], [.int .i64 x.f2, .int .i64 x.f3], rfl, rfl, ⟨[.int .i64 x.f2], [.int .i64 x.f3], rfl, rfl, rfl⟩⟩⟩
def cZ (xs : List fx) (i : Int) : fx := xs.getD i.toNat Ed
theorem ph {w : World} {A : Option Addr} {n : Nat} {xs : List fx} (h : Kd.C oK w A n xs) (i : Int) (h0 : 0 ≤ i) (h1 : i < n) : ∃ ad , A = some ad ∧ w.cell? (ad.add (i.toNat * 4)) = some (.int .i64 (cZ xs i).f0) ∧ w.cell? ⟨(ad.add (i.toNat * 4)).block, (ad.add (i.toNat * 4)).off + 1, none⟩ = some (.int .i64 (cZ xs i).f1) ∧ w.cell? ⟨(ad.add (i.toNat * 4)).block, (ad.add (i.toNat * 4)).off + 2, none⟩ = some (.int .i64 (cZ xs i).f2) ∧ w.cell? ⟨(ad.add (i.toNat * 4)).block, (ad.add (i.toNat * 4)).off + 3, none⟩ = some (.int .i64 (cZ xs i).f3) := by
  obtain ⟨ad, c, e, _, hK, hc0⟩ := Kd.Ad h Ed i h0 h1
  have hc : ∀ j u, c[j]? = some u → w.cell? (ad.add (i.toNat * 4 + j)) = some u := hc0
  obtain rfl := ye hK
  exact ⟨ad, e, hc 0 _ rfl, by rw [← fv _ _ 1 (by omega)]; exact hc 1 _ rfl, by rw [← fv _ _ 2 (by omega)]; exact hc 2 _ rfl, by rw [← fv _ _ 3 (by omega)]; exact hc 3 _ rfl⟩
end Go.Proofs.YtmjlmloomkodpaaGreatDoor.PA
namespace Go.Proofs.YtmjlmloomkodpaaGreatDoor.PA
open Go.RowKit Go.Proofs.ae.aw Go.Proofs.ae.aJ Go.Proofs.ae.aN
attribute [local go_sem] bm bh bA bz a6 aZ bj bf
set_option linter.unusedVariables false
set_option linter.unusedSimpArgs false
def cq.f (a0 : Int) : Option (Int) := if (Int.tmod a0 6) = 5 then (some 0) else (if (Int.tmod a0 3) = 0 then (some 1) else (some a0))
set_option maxHeartbeats 8000000 in
set_option maxRecDepth 100000 in
theorem cq.calls (a0 : Int) (r : Int) (w : World) (h : cq.f a0 = some r) :
  Calls Tryz.prog 104 #[.int .i64 a0] w fun e w' => e = .returned (.int .i64 r) ∧ aK w w' := by
 have H : (if (Int.tmod a0 6) = 5 then (some 0) else (if (Int.tmod a0 3) = 0 then (some 1) else (some a0))) = some r := h
 clear h
 by_cases c2 : (Int.tmod a0 6) = 5
 ·rw [if_pos c2] at H
  have c2b0 : ((Int.tmod a0 6) == 5) = true := beq_iff_eq.mpr c2
  have c2b1 : ((Int.tmod a0 6) != 5) = false := bne_eq_false_iff_eq.mpr c2
  clear c2
  obtain rfl := Option.some.inj H
  go_enter Tryz.func104, Tryz.ntmps104
  go_wp2
  go_ret
  exact ⟨by first | rfl | (simp; done) | (simp [*]; done), by repeat (first | exact aK.refl _ | apply aK.step)⟩
 ·rw [if_neg c2] at H
  have c2b0 : ((Int.tmod a0 6) == 5) = false := beq_eq_false_iff_ne.mpr c2
  have c2b1 : ((Int.tmod a0 6) != 5) = true := bne_iff_ne.mpr c2
  by_cases c3 : (Int.tmod a0 3) = 0
  ·rw [if_pos c3] at H
   have c3b0 : ((Int.tmod a0 3) == 0) = true := beq_iff_eq.mpr c3
   have c3b1 : ((Int.tmod a0 3) != 0) = false := bne_eq_false_iff_eq.mpr c3
   clear c3
   obtain rfl := Option.some.inj H
   go_enter Tryz.func104, Tryz.ntmps104
   go_wp2
   go_ret
   exact ⟨by first | rfl | (simp; done) | (simp [*]; done), by repeat (first | exact aK.refl _ | apply aK.step)⟩
  ·rw [if_neg c3] at H
   have c3b0 : ((Int.tmod a0 3) == 0) = false := beq_eq_false_iff_ne.mpr c3
   have c3b1 : ((Int.tmod a0 3) != 0) = true := bne_iff_ne.mpr c3
   obtain rfl := Option.some.inj H
   go_enter Tryz.func104, Tryz.ntmps104
   go_wp2
   go_ret
   exact ⟨by first | rfl | (simp; done) | (simp [*]; done), by repeat (first | exact aK.refl _ | apply aK.step)⟩
end Go.Proofs.YtmjlmloomkodpaaGreatDoor.PA
namespace Go.Proofs.YtmjlmloomkodpaaGreatDoor.PA
open Go.RowKit Go.Proofs.ae.aw Go.Proofs.ae.aJ Go.Proofs.ae.aN
attribute [local go_sem] bm bh bA bz a6 aZ bj bf
set_option linter.unusedVariables false
set_option linter.unusedSimpArgs false
mutual
def bC.j0 : Nat → List Int → Bool → Option (List Int)
 | 0, _, _ => none
 | k + 1, x0, x13 => if x13 = true then (some ([] : List Int)) else ((cq.f (x0.length : Int)).bind fun t418 => (if 0 ≤ (wrap64 ((x0.length : Int) + t418)) then (if (wrap64 ((x0.length : Int) + t418) : Int).toNat ≤ 35184372088832 then (bC.l0 k x0 (List.replicate (wrap64 ((x0.length : Int) + t418) : Int).toNat 0) 0) else (none)) else (none)))
def bC.l0 : Nat → List Int → List Int → Int → Option (List Int)
 | 0, _, _, _ => none
 | k + 1, x0, x5, x6 => if x6 < (x0.length : Int) then (if 0 ≤ x6 then (if x6 < (x5.length : Int) then (bC.l0 k x0 (x5.set (x6 : Int).toNat (rd x0 x6)) (wrap64 (x6 + 1))) else (none)) else (none)) else (bC.l1 k x0 x5 (x0.length : Int))
def bC.l1 : Nat → List Int → List Int → Int → Option (List Int)
 | 0, _, _, _ => none
 | k + 1, x0, x5, x7 => if x7 < (x5.length : Int) then (if 0 ≤ x7 then (bC.l1 k x0 (x5.set (x7 : Int).toNat (-7000000000000000101)) (wrap64 (x7 + 1))) else (none)) else (if 0 ≤ (x0.length : Int) then (if (x0.length : Int) ≤ (x5.length : Int) then (some x5) else (none)) else (none))
end
def bC.f (k : Nat) (l0 : List Int) : Option (List Int) := bC.j0 k l0 false
set_option maxHeartbeats 8000000 in
set_option maxRecDepth 100000 in
theorem bC.calls (k : Nat) (A0 : Option Addr) (c0 : Nat) (l0 : List Int) (r : List Int) (w : World) (hr0 : Kd.C (Kd.int .i64) w A0 l0.length l0) (hc0 : l0.length ≤ c0) (h : bC.f k l0 = some r) :
  Calls Tryz.prog 66 #[.slice A0 l0.length c0, .bool false] w fun e w' => ∃ (A_ : Option Addr) (c_ : Nat), e = .returned (.slice A_ l0.length c_) ∧ Kd.R (Kd.int .i64) 3 w' w.heap.size (fun _ => True) (.slice A_ r.length c_) r ∧ Below w.heap.size w w' := by
 have HR0 := aa.mk hr0
 have HC0 := aa.mk hc0
 clear hr0 hc0
 have HB := aa.mk (Below.refl w.heap.size w)
 have H : bC.j0 k l0 false = some r := h
 clear h
 have HC3 := aa.mk H
 clear H
 go_enter Tryz.func66, Tryz.ntmps66
 go_upto_region 1 with (fail)
 go_cut [13] (fun v13 wc => ∃ (kq : Nat), v13 = .bool false ∧ aa (bC.j0 kq l0 false = some r) ∧ aa (kq ≤ k) ∧ aa (Below w.heap.size w wc))
 case first =>
  have H := HC3.out
  clear HC3
  have H' := aa.mk H
  clear H
  go_wp2
  go_meet
  case rel => exact ⟨_, rfl, H', ⟨by first | omega | exact Nat.le_refl _⟩, ⟨by repeat (first | (with_reducible first | exact HB.out | apply ag | apply af | apply ah) | exact HB.out)⟩⟩
 case rest =>
  clear HC3
  try clear p2
  try clear c4
  obtain ⟨kq, rfl, HA, HJ2, HB⟩ := hcut
  cases kq with
  | zero => exact absurd HA.out (by simp [bC.j0])
  | succ kj2 =>
   have H := HA.out
   clear HA
   simp only [bC.j0] at H
   skip
   ·skip
    have H1 : ((cq.f (l0.length : Int)).bind fun t418 => (if 0 ≤ (wrap64 ((l0.length : Int) + t418)) then (if (wrap64 ((l0.length : Int) + t418) : Int).toNat ≤ 35184372088832 then (bC.l0 kj2 l0 (List.replicate (wrap64 ((l0.length : Int) + t418) : Int).toNat 0) 0) else (none)) else (none))) = some r := by rw [if_neg (show ¬ (false = true) by decide)] at H; exact H
    clear H
    have H := H1
    clear H1
    replace H := Option.bind_eq_some_iff.mp H
    obtain ⟨t418, A60, H⟩ := H
    replace H : (if 0 ≤ (wrap64 ((l0.length : Int) + t418)) then (if (wrap64 ((l0.length : Int) + t418) : Int).toNat ≤ 35184372088832 then (bC.l0 kj2 l0 (List.replicate (wrap64 ((l0.length : Int) + t418) : Int).toNat 0) 0) else (none)) else (none)) = some r := H
    have A6 := aa.mk A60
    clear A60
    obtain ⟨ji7, hji7⟩ : ∃ j_ : Int, (wrap64 ((l0.length : Int) + t418)) = j_ := ⟨_, rfl⟩
    replace H : (if 0 ≤ (ji7) then (if (ji7 : Int).toNat ≤ 35184372088832 then (bC.l0 kj2 l0 (List.replicate (ji7 : Int).toNat 0) 0) else (none)) else (none)) = some r := by first | (rw [hji7] at H; exact H) | (simp only [hji7] at H ⊢; exact H)
    (try rw [hji7] at A6)
    have hji7w : (IntKind.i64.wrap ((l0.length : Int) + t418)) = ji7 := (bd _).trans hji7
    by_cases c8 : 0 ≤ (ji7)
    ·rw [if_pos c8] at H
     have c8b0 := eq_true c8
     have c8b1 : decide (0 ≤ (ji7)) = true := decide_eq_true c8
     clear c8
     by_cases c9 : (ji7 : Int).toNat ≤ 35184372088832
     ·rw [if_pos c9] at H
      have c9b0 := eq_true c9
      have c9b1 : decide ((ji7 : Int).toNat ≤ 35184372088832) = true := decide_eq_true c9
      clear c9
      obtain ⟨y419, hy419⟩ : ∃ y_ : List Int, y_ = (List.replicate (ji7 : Int).toNat 0) := ⟨_, rfl⟩
      replace H : (bC.l0 kj2 l0 y419 0) = some r := by first | (rw [hy419]; with_reducible exact H) | (have H2_ := (Option.bind_some _ _).symm.trans H; rw [hy419]; with_reducible exact H2_) | (have H2_ := (Option.bind_some _ _).symm.trans H; with_reducible exact H2_) | with_reducible exact H | (rw [hy419]; exact H) | exact H
      have Ny419 := aa.mk hy419
      clear hy419
      have H' := aa.mk H
      clear H
      go_wp2_with (first | ((with_reducible refine az (f := 104) rfl ?_); refine bH (some 18) rfl rfl Tryz.func104 (by kernel_rfl) rfl #[.int .i64 (l0.length : Int)] rfl (by (try simp only [List.map_toArray, List.map_cons, List.map_nil]); first | done | rfl | (simp only [List.length_drop, List.length_take]; rfl)) ?_; (with_reducible refine (cq.calls (l0.length : Int) t418 _ A6.out).mono ?_); rintro e w' ⟨rfl, ⟨nd, rfl⟩⟩; refine ⟨_, rfl, ?_⟩) | ((with_reducible refine aQ (N := 20) rfl ?_); (try (refine kI (by rfl) ?_; dsimp only)); refine Kd.zI (Kd.int .i64) _ 3 rfl (N := 20) rfl 22 _ _ rfl ji7 rfl rfl Tryz.underlying22 (.int .i64 0) 8 iV rfl (by decide) (by omega) 0 (ok := fun _ => True) (okp := fun _ => True) rfl (fun _ hk => hk) trivial (of_decide_eq_true (by first | (with_reducible assumption) | assumption)) (Nat.le_trans (Nat.mul_le_mul_right _ (of_decide_eq_true (by first | (with_reducible assumption) | assumption) : ji7.toNat ≤ 35184372088832)) (by omega)) (Below.refl _ _) (Nat.le_refl _) ?_; intro v420 w10 pM hb hg_ hnew_; clear hg_ hnew_; (first | rw [← Ny419.out] at pM | (simp only [Int.reduceToNat] at pM; rw [← Ny419.out] at pM)); have n0_ := aa.mk (Kd.cU pM (aq (by repeat (first | (with_reducible first | exact HB.out | apply ag | apply af | apply ah) | exact HB.out)))); have n1_ := aa.mk (ar (by repeat (first | (with_reducible first | exact HB.out | apply ag | apply af | apply ah) | exact HB.out)) hb); clear HB; have zN := n0_; have HB := n1_; clear n0_ n1_; clear hb pM))
      go_loopg [6] kj2 (fun kq v6 w' => ∃ (x5_2 : List Int) (x6_2 : Int), v6 = .int .i64 x6_2 ∧ aa (bC.l0 kq l0 x5_2 x6_2 = some r) ∧ aa (kq ≤ kj2) ∧ aa (Kd.R (Kd.int .i64) 3 w' w.heap.size (fun _ => True) v420 x5_2) ∧ aa (Below w.heap.size w w'))
      case atStart => exact ⟨(y419), (0), (by first | rfl | (simp; done) | (simp [*]; done)), H', ⟨Nat.le_refl _⟩, ⟨by (with_reducible repeat (first | apply Kd.aH | apply Kd.aG | apply Kd.aV)); exact zN.out⟩, ⟨by repeat (first | (with_reducible first | exact HB.out | apply ag | apply af | apply ah) | exact HB.out)⟩⟩
      case round =>
       clear H'
       try clear c1
       try clear p2
       try clear c4
       try clear c5
       try clear c6
       try clear p6
       try clear c8
       try clear c8b0
       try clear c8b1
       try clear c9
       try clear c9b0
       try clear c9b1
       try clear c10
       try clear p2
       obtain ⟨x5_2, x6_2, rfl, HA, HK2, en, HB⟩ := hrel
       cases gk with
       | zero => exact absurd HA.out (by simp [bC.l0])
       | succ k2 =>
        have H := HA.out
        clear HA
        simp only [bC.l0] at H
        by_cases c12 : x6_2 < (l0.length : Int)
        ·rw [if_pos c12] at H
         have c12b0 : decide (x6_2 < (l0.length : Int)) = true := decide_eq_true c12
         clear c12
         by_cases c13 : 0 ≤ x6_2
         ·rw [if_pos c13] at H
          have c13b0 : decide (0 ≤ x6_2) = true := decide_eq_true c13
          clear c13
          by_cases c14 : x6_2 < (x5_2.length : Int)
          ·rw [if_pos c14] at H
           have c14b0 : decide (x6_2 < (x5_2.length : Int)) = true := decide_eq_true c14
           clear c14
           obtain ⟨y423, hy423⟩ : ∃ y_ : List Int, y_ = (x5_2.set (x6_2 : Int).toNat (rd l0 x6_2)) := ⟨_, rfl⟩
           replace H : (bC.l0 k2 l0 y423 (wrap64 (x6_2 + 1))) = some r := by first | (rw [hy423]; with_reducible exact H) | (have H2_ := (Option.bind_some _ _).symm.trans H; rw [hy423]; with_reducible exact H2_) | (have H2_ := (Option.bind_some _ _).symm.trans H; with_reducible exact H2_) | with_reducible exact H | (rw [hy423]; exact H) | exact H
           have Ny423 := aa.mk hy423
           clear hy423
           have H' := aa.mk H
           clear H
           have p422 : 0 ≤ (x6_2 : Int) := of_decide_eq_true (by first | (with_reducible assumption) | assumption)
           have q422 : x6_2 < (l0.length : Int) := of_decide_eq_true (by first | (with_reducible assumption) | assumption)
           obtain ⟨ad422, e422, ji⟩ := Kd.dr HR0.out x6_2 p422 q422
           cases e422
           replace ji := (HB.out.cell (World.block_lt_of_cell? w _ ji)).trans ji
           replace p422 := eq_true p422
           replace q422 := eq_true q422
           have p15 : 0 ≤ (x6_2 : Int) := of_decide_eq_true (by first | (with_reducible assumption) | assumption)
           have q15 : (x6_2 : Int) < ((x5_2.length : Int) : Int) := of_decide_eq_true (by first | (with_reducible assumption) | assumption)
           obtain ⟨go15, pU, ta, zi, gl15, cl15, zQ⟩ := Kd.nM en.out (by omega)
           (first | cases ta | (injection ta with ea_ en_ ec_; (first | subst ea_ | (injection ea_ with ea_; subst ea_)); subst ec_; clear en_))
           have GB15 := aa.mk zi
           have GG15 := aa.mk zQ
           clear zi gl15 zQ
           obtain ⟨u0, hf15_0⟩ := Kd.nm 0 en.out (x6_2 : Int) p15 q15
           replace p15 := eq_true p15
           replace q15 := eq_true q15
           have vC := Kd.qb en.out (x6_2 : Int) (rd l0 x6_2)
           go_wp2_with (first | ((with_reducible refine jz (t := 3) (p := 33) rfl ?_); refine iU (t := 3) (p := 33) (v := ?vo_w17) (w1 := (wr.setCell ⟨go15, (x6_2 : Int).toNat, none⟩ (.int .i64 (rd l0 x6_2)))) ?hg ?ho ?hn ?hr ?_; (case ho => rfl); (case hg => rfl); (case hn => rfl); (case hr => first | (go_simp; done) | (go_simp; rfl)); intro w17 hw; have hg : wr.grownBy w17 (some go15) := (by rw [hw]; exact vC.2); have hp_ : Kd.R (Kd.int .i64) 3 w17 w.heap.size (fun _ => True) (.slice (some ⟨go15, 0, none⟩) x5_2.length pU) y423 := (by rw [hw, Ny423.out]; exact vC.1); clear vC; have n0_ := aa.mk (hp_); have n1_ := aa.mk ((by rw [hw]; exact ak (HB.out) GB15.out : Below w.heap.size w w17)); clear en; clear HB; have en := n0_; have HB := n1_; clear n0_ n1_; clear hg hw hp_))
           go_roundg k2
           case measure => have := HJ2.out; have := HK2.out; omega
           case rel => exact ⟨(y423), (wrap64 (x6_2 + 1)), (by first | rfl | (simp; done) | (simp [*]; done)), H', ⟨by have := HJ2.out; have := HK2.out; omega⟩, ⟨by (with_reducible repeat (first | apply Kd.aH | apply Kd.aG | apply Kd.aV)); exact en.out⟩, ⟨by repeat (first | (with_reducible first | exact HB.out | apply ag | apply af | apply ah) | exact HB.out)⟩⟩
          ·rw [if_neg c14] at H
           exact absurd H (by simp)
         ·rw [if_neg c13] at H
          exact absurd H (by simp)
        ·rw [if_neg c12] at H
         have c12b0 : decide (x6_2 < (l0.length : Int)) = false := decide_eq_false c12
         clear c12
         have H' := aa.mk H
         clear H
         go_wp2
         go_loopg [7] k2 (fun kq v7 w' => ∃ (x5_3 : List Int) (x7_3 : Int), v7 = .int .i64 x7_3 ∧ aa (bC.l1 kq l0 x5_3 x7_3 = some r) ∧ aa (kq ≤ k2) ∧ aa (Kd.R (Kd.int .i64) 3 w' w.heap.size (fun _ => True) v420 x5_3) ∧ aa (Below w.heap.size w w'))
         case atStart => exact ⟨(x5_2), ((l0.length : Int)), (by first | rfl | (simp; done) | (simp [*]; done)), H', ⟨Nat.le_refl _⟩, ⟨by (with_reducible repeat (first | apply Kd.aH | apply Kd.aG | apply Kd.aV)); exact en.out⟩, ⟨by repeat (first | (with_reducible first | exact HB.out | apply ag | apply af | apply ah) | exact HB.out)⟩⟩
         case round =>
          clear H'
          try clear c1
          try clear p1
          try clear q1
          try clear hx1
          try clear p2
          try clear c4
          try clear p4
          try clear q4
          try clear hx4
          try clear c5
          try clear c6
          try clear p6
          try clear c8
          try clear c8b0
          try clear c8b1
          try clear c9
          try clear c9b0
          try clear c9b1
          try clear c10
          try clear c12
          try clear c12b0
          try clear c13
          try clear c13b0
          try clear c14
          try clear c14b0
          try clear p15
          try clear q15
          try clear hx15
          try clear hf15
          try clear u0
          try clear ji
          try clear p15
          try clear p2
          try clear p422
          try clear p6
          try clear q15
          try clear q422
          obtain ⟨x5_3, x7_3, rfl, HA, HK3, en, HB⟩ := hrel
          cases gk with
          | zero => exact absurd HA.out (by simp [bC.l1])
          | succ k3 =>
           have H := HA.out
           clear HA
           simp only [bC.l1] at H
           by_cases c18 : x7_3 < (x5_3.length : Int)
           ·rw [if_pos c18] at H
            have c18b0 : decide (x7_3 < (x5_3.length : Int)) = true := decide_eq_true c18
            clear c18
            by_cases c19 : 0 ≤ x7_3
            ·rw [if_pos c19] at H
             have c19b0 : decide (0 ≤ x7_3) = true := decide_eq_true c19
             clear c19
             obtain ⟨y424, hy424⟩ : ∃ y_ : List Int, y_ = (x5_3.set (x7_3 : Int).toNat (-7000000000000000101)) := ⟨_, rfl⟩
             replace H : (bC.l1 k3 l0 y424 (wrap64 (x7_3 + 1))) = some r := by first | (rw [hy424]; with_reducible exact H) | (have H2_ := (Option.bind_some _ _).symm.trans H; rw [hy424]; with_reducible exact H2_) | (have H2_ := (Option.bind_some _ _).symm.trans H; with_reducible exact H2_) | with_reducible exact H | (rw [hy424]; exact H) | exact H
             have Ny424 := aa.mk hy424
             clear hy424
             have H' := aa.mk H
             clear H
             obtain ⟨qo, nI, ur⟩ := Kd.bE en.out
             subst ur
             have p20 : 0 ≤ (x7_3 : Int) := of_decide_eq_true (by first | (with_reducible assumption) | assumption)
             have q20 : (x7_3 : Int) < ((x5_3.length : Int) : Int) := of_decide_eq_true (by first | (with_reducible assumption) | assumption)
             obtain ⟨go20, zv, uu, zh, gl20, cl20, zP⟩ := Kd.nM en.out (by omega)
             (first | cases uu | (injection uu with ea_ en_ ec_; (first | subst ea_ | (injection ea_ with ea_; subst ea_)); subst ec_; clear en_))
             have GB20 := aa.mk zh
             have GG20 := aa.mk zP
             clear zh gl20 zP
             obtain ⟨Dk, hf20_0⟩ := Kd.nm 0 en.out (x7_3 : Int) p20 q20
             replace p20 := eq_true p20
             replace q20 := eq_true q20
             have vB := Kd.qb en.out (x7_3 : Int) (-7000000000000000101)
             go_wp2_with (first | ((with_reducible refine jz (t := 3) (p := 44) rfl ?_); refine iU (t := 3) (p := 44) (v := ?vo_w23) (w1 := (wr.setCell ⟨go20, (x7_3 : Int).toNat, none⟩ (.int .i64 (-7000000000000000101)))) ?hg ?ho ?hn ?hr ?_; (case ho => rfl); (case hg => rfl); (case hn => rfl); (case hr => first | (go_simp; done) | (go_simp; rfl)); intro w23 hw; have hg : wr.grownBy w23 (some go20) := (by rw [hw]; exact vB.2); have hp_ : Kd.R (Kd.int .i64) 3 w23 w.heap.size (fun _ => True) (.slice (some ⟨go20, 0, none⟩) x5_3.length nI) y424 := (by rw [hw, Ny424.out]; exact vB.1); clear vB; have n0_ := aa.mk (hp_); have n1_ := aa.mk ((by rw [hw]; exact ak (HB.out) GB20.out : Below w.heap.size w w23)); clear en; clear HB; have en := n0_; have HB := n1_; clear n0_ n1_; clear hg hw hp_))
             go_roundg k3
             case measure => have := HJ2.out; have := HK2.out; have := HK3.out; omega
             case rel => exact ⟨(y424), (wrap64 (x7_3 + 1)), (by first | rfl | (simp; done) | (simp [*]; done)), H', ⟨by have := HJ2.out; have := HK2.out; have := HK3.out; omega⟩, ⟨by (with_reducible repeat (first | apply Kd.aH | apply Kd.aG | apply Kd.aV)); exact en.out⟩, ⟨by repeat (first | (with_reducible first | exact HB.out | apply ag | apply af | apply ah) | exact HB.out)⟩⟩
            ·rw [if_neg c19] at H
             exact absurd H (by simp)
           ·rw [if_neg c18] at H
            have c18b0 : decide (x7_3 < (x5_3.length : Int)) = false := decide_eq_false c18
            clear c18
            by_cases c24 : 0 ≤ (l0.length : Int)
            ·rw [if_pos c24] at H
             have c24b0 := eq_true c24
             have c24b1 : decide (0 ≤ (l0.length : Int)) = true := decide_eq_true c24
             clear c24
             by_cases c25 : (l0.length : Int) ≤ (x5_3.length : Int)
             ·rw [if_pos c25] at H
              have c25b0 := eq_true c25
              have c25b1 : decide ((l0.length : Int) ≤ (x5_3.length : Int)) = true := decide_eq_true c25
              clear c25
              obtain ⟨y425, hy425⟩ : ∃ y_ : List Int, y_ = x5_3 := ⟨_, rfl⟩
              replace H : (some y425) = some r := by first | (rw [hy425]; with_reducible exact H) | (have H2_ := (Option.bind_some _ _).symm.trans H; rw [hy425]; with_reducible exact H2_) | (have H2_ := (Option.bind_some _ _).symm.trans H; with_reducible exact H2_) | with_reducible exact H | (rw [hy425]; exact H) | exact H
              have Ny425 := aa.mk hy425
              clear hy425
              obtain rfl := Option.some.inj H
              obtain rfl : y425 = x5_3 := Ny425.out
              obtain ⟨CH, Cg, DJ⟩ := Kd.bE en.out
              subst DJ
              have q27 : ((l0.length : Int) : Int) ≤ ((y425.length : Int) : Int) := of_decide_eq_true (by first | (with_reducible assumption) | assumption)
              obtain ⟨i027, uh, _, hsz27, _⟩ := info_parts iV
              have vg := vu (P := Tryz.prog) 22 3 .i64 Tryz.underlying22 uh CH y425.length Cg (l0.length : Int) (of_decide_eq_true (by first | (with_reducible assumption) | assumption)) q27 (Kd.bX en.out).2.1
              rw [Int.toNat_natCast] at vg
              clear uh hsz27
              replace q27 := eq_true q27
              go_wp2
              go_ret
              exact ⟨CH, Cg, rfl, by (with_reducible repeat (first | apply Kd.aH | apply Kd.aG | apply Kd.aV)); exact en.out, by repeat (first | (with_reducible first | exact HB.out | apply ag | apply af | apply ah) | exact HB.out)⟩
             ·rw [if_neg c25] at H
              exact absurd H (by simp)
            ·rw [if_neg c24] at H
             exact absurd H (by simp)
     ·rw [if_neg c9] at H
      exact absurd H (by simp)
    ·rw [if_neg c8] at H
     exact absurd H (by simp)
def fu.f (k : Nat) (a0_0 : Int) (a0_1 : Int) (l0_2 : List Int) (l0_3 : List Int) : Option (Int × Int × List Int × List Int) := (bC.f k l0_2).bind fun t431 => ((bC.f k l0_3).bind fun t434 => (some (a0_0, a0_1, t431, t434)))
set_option maxHeartbeats 8000000 in
set_option maxRecDepth 100000 in
theorem fu.calls (k : Nat) (a0_0 : Int) (a0_1 : Int) (A0_2 : Option Addr) (c0_2 : Nat) (l0_2 : List Int) (A0_3 : Option Addr) (c0_3 : Nat) (l0_3 : List Int) (r1 : Int) (r2 : Int) (r3 : List Int) (r4 : List Int) (w : World) (b0 : Kd.C (Kd.int .i64) w A0_2 l0_2.length l0_2) (bW : l0_2.length ≤ c0_2) (bZ : Kd.C (Kd.int .i64) w A0_3 l0_3.length l0_3) (bV : l0_3.length ≤ c0_3) (h : fu.f k a0_0 a0_1 l0_2 l0_3 = some (r1, r2, r3, r4)) :
  Calls Tryz.prog 37 #[.agg #[.int .i64 a0_0, .int .i64 a0_1, .slice A0_2 l0_2.length c0_2, .slice A0_3 l0_3.length c0_3], .bool false] w fun e w' => ∃ (A2_ : Option Addr) (c2_ : Nat) (A3_ : Option Addr) (c3_ : Nat), e = .returned (.agg #[.int .i64 r1, .int .i64 r2, .slice A2_ l0_2.length c2_, .slice A3_ l0_3.length c3_]) ∧ Kd.R (Kd.int .i64) 3 w' w.heap.size (fun k_ => some k_ ≠ (Value.slice A3_ r4.length c3_).ownBlock) (.slice A2_ r3.length c2_) r3 ∧ Kd.R (Kd.int .i64) 3 w' w.heap.size (fun k_ => some k_ ≠ (Value.slice A2_ r3.length c2_).ownBlock) (.slice A3_ r4.length c3_) r4 ∧ Below w.heap.size w w' := by
 have hu24 := Tryz.underlying24
 have hu28 := Tryz.underlying28
 have cy := aa.mk b0
 have cD := aa.mk bW
 clear b0 bW
 have cG := aa.mk bZ
 have cJ := aa.mk bV
 clear bZ bV
 have HB := aa.mk (Below.refl w.heap.size w)
 have H : ((bC.f k l0_2).bind fun t431 => ((bC.f k l0_3).bind fun t434 => (some (a0_0, a0_1, t431, t434)))) = some (r1, r2, r3, r4) := h
 clear h
 replace H := Option.bind_eq_some_iff.mp H
 obtain ⟨t431, A30, H⟩ := H
 replace H : ((bC.f k l0_3).bind fun t434 => (some (a0_0, a0_1, t431, t434))) = some (r1, r2, r3, r4) := H
 have A3 := aa.mk A30
 clear A30
 replace H := Option.bind_eq_some_iff.mp H
 obtain ⟨t434, A40, H⟩ := H
 replace H : (some (a0_0, a0_1, t431, t434)) = some (r1, r2, r3, r4) := H
 have A4 := aa.mk A40
 clear A40
 simp only [Option.some.injEq, Prod.mk.injEq] at H
 obtain ⟨rfl, rfl, rfl, rfl⟩ := H
 go_enter Tryz.func37, Tryz.ntmps37
 go_wp2_with (first | ((with_reducible refine aQ (N := 2) rfl ?_); refine aM ?hg (N := 2) ?hd (cs := #[.int .i64 a0_0, .int .i64 a0_1, .slice A0_2 l0_2.length c0_2, .slice A0_3 l0_3.length c0_3]) (t := 24) ?hr ?_; (case hd => rfl); (case hg => rfl); (case hr => first | (go_simp; done) | (go_simp; rfl)); intro dz hg w5 hbox hb; have n0_ := aa.mk (ar (by repeat (first | (with_reducible first | exact HB.out | apply ag | apply af | apply ah) | exact HB.out)) hb); have n1_ := aa.mk (hbox); have n2_ := aa.mk ((by rw [hg]; exact (aq (by repeat (first | (with_reducible first | exact HB.out | apply ag | apply af | apply ah) | exact HB.out))) : w.heap.size ≤ dz)); have n3_ := aa.mk ((by rw [hg]; exact (aq (by repeat (first | (with_reducible first | exact HB.out | apply ag | apply af | apply ah) | exact HB.out))) : w.heap.size ≤ dz)); clear HB; have HB := n0_; have cO := n1_; have FT := n2_; have fB := n3_; clear n0_ n1_ n2_ n3_; clear hb hbox hg) | ((with_reducible refine aQ (N := 4) rfl ?_); refine aM ?hg (N := 4) ?hd (cs := #[.int .i64 0, .int .i64 0, .slice none 0 0, .slice none 0 0]) (t := 28) ?hr ?_; (case hd => rfl); (case hg => rfl); (case hr => first | (go_simp; done) | (go_simp; rfl)); intro du hg w6 hbox hb; have n0_ := aa.mk (aD (g := dz) (o := .cells #[.int .i64 a0_0, .int .i64 a0_1, .slice A0_2 l0_2.length c0_2, .slice A0_3 l0_3.length c0_3] 24 (0, 0)) (by (with_reducible repeat (first | refine al ?_ _ | refine ao ?_ | refine an ?_ _)); exact cO.out) hb); have n1_ := aa.mk (ar (by repeat (first | (with_reducible first | exact HB.out | apply ag | apply af | apply ah | refine ak ?_ fB.out) | exact HB.out)) hb); have n2_ := aa.mk (hbox); have n3_ := aa.mk ((by rw [hg]; exact (aq (by repeat (first | (with_reducible first | exact HB.out | apply ag | apply af | apply ah | refine ak ?_ fB.out) | exact HB.out))) : w.heap.size ≤ du)); have n4_ := aa.mk ((by rw [hg]; exact (aq (by repeat (first | (with_reducible first | exact HB.out | apply ag | apply af | apply ah | refine ak ?_ fB.out) | exact HB.out))) : w.heap.size ≤ du)); have n5_ := aa.mk ((by rw [hg]; exact Nat.ne_of_lt (a7 (g := dz) (o := .cells #[.int .i64 a0_0, .int .i64 a0_1, .slice A0_2 l0_2.length c0_2, .slice A0_3 l0_3.length c0_3] 24 (0, 0)) (by (with_reducible repeat (first | refine al ?_ _ | refine ao ?_ | refine an ?_ _)); exact cO.out)) : dz ≠ du)); have n6_ := aa.mk ((by rw [hg]; exact Nat.ne_of_gt (a7 (g := dz) (o := .cells #[.int .i64 a0_0, .int .i64 a0_1, .slice A0_2 l0_2.length c0_2, .slice A0_3 l0_3.length c0_3] 24 (0, 0)) (by (with_reducible repeat (first | refine al ?_ _ | refine ao ?_ | refine an ?_ _)); exact cO.out)) : du ≠ dz)); clear cO; clear HB; have cO := n0_; have HB := n1_; have dA := n2_; have FR := n3_; have gH := n4_; have nW := n5_; have nV := n6_; clear n0_ n1_ n2_ n3_ n4_ n5_ n6_; clear hb hbox hg) | ((with_reducible refine aQ (N := 5) rfl ?_); refine aM ?hg (N := 5) ?hd (cs := #[.int .i64 0, .int .i64 0, .slice none 0 0, .slice none 0 0]) (t := 28) ?hr ?_; (case hd => rfl); (case hg => rfl); (case hr => first | (go_simp; done) | (go_simp; rfl)); intro dt hg w7 hbox hb; have n0_ := aa.mk (aD (g := dz) (o := .cells #[.int .i64 a0_0, .int .i64 a0_1, .slice A0_2 l0_2.length c0_2, .slice A0_3 l0_3.length c0_3] 24 (0, 0)) (by (with_reducible repeat (first | refine al ?_ _ | refine ao ?_ | refine an ?_ _)); exact cO.out) hb); have n1_ := aa.mk (aD (g := du) (o := .cells #[.int .i64 0, .int .i64 0, .slice none 0 0, .slice none 0 0] 28 (0, 0)) (by (with_reducible repeat (first | refine al ?_ _ | refine ao ?_ | refine an ?_ _)); exact dA.out) hb); have n2_ := aa.mk (ar (by repeat (first | (with_reducible first | exact HB.out | apply ag | apply af | apply ah | refine ak ?_ fB.out | refine ak ?_ gH.out) | exact HB.out)) hb); have n3_ := aa.mk (hbox); have n4_ := aa.mk ((by rw [hg]; exact (aq (by repeat (first | (with_reducible first | exact HB.out | apply ag | apply af | apply ah | refine ak ?_ fB.out | refine ak ?_ gH.out) | exact HB.out))) : w.heap.size ≤ dt)); have n5_ := aa.mk ((by rw [hg]; exact (aq (by repeat (first | (with_reducible first | exact HB.out | apply ag | apply af | apply ah | refine ak ?_ fB.out | refine ak ?_ gH.out) | exact HB.out))) : w.heap.size ≤ dt)); have n6_ := aa.mk ((by rw [hg]; exact Nat.ne_of_lt (a7 (g := dz) (o := .cells #[.int .i64 a0_0, .int .i64 a0_1, .slice A0_2 l0_2.length c0_2, .slice A0_3 l0_3.length c0_3] 24 (0, 0)) (by (with_reducible repeat (first | refine al ?_ _ | refine ao ?_ | refine an ?_ _)); exact cO.out)) : dz ≠ dt)); have n7_ := aa.mk ((by rw [hg]; exact Nat.ne_of_gt (a7 (g := dz) (o := .cells #[.int .i64 a0_0, .int .i64 a0_1, .slice A0_2 l0_2.length c0_2, .slice A0_3 l0_3.length c0_3] 24 (0, 0)) (by (with_reducible repeat (first | refine al ?_ _ | refine ao ?_ | refine an ?_ _)); exact cO.out)) : dt ≠ dz)); have n8_ := aa.mk ((by rw [hg]; exact Nat.ne_of_lt (a7 (g := du) (o := .cells #[.int .i64 0, .int .i64 0, .slice none 0 0, .slice none 0 0] 28 (0, 0)) (by (with_reducible repeat (first | refine al ?_ _ | refine ao ?_ | refine an ?_ _)); exact dA.out)) : du ≠ dt)); have n9_ := aa.mk ((by rw [hg]; exact Nat.ne_of_gt (a7 (g := du) (o := .cells #[.int .i64 0, .int .i64 0, .slice none 0 0, .slice none 0 0] 28 (0, 0)) (by (with_reducible repeat (first | refine al ?_ _ | refine ao ?_ | refine an ?_ _)); exact dA.out)) : dt ≠ du)); clear cO; clear dA; clear HB; have cO := n0_; have dA := n1_; have HB := n2_; have cH := n3_; have FQ := n4_; have jE := n5_; have gu := n6_; have nU := n7_; have fy := n8_; have nT := n9_; clear n0_ n1_ n2_ n3_ n4_ n5_ n6_ n7_ n8_ n9_; clear hb hbox hg; have Bk := nW.out; have Bj := nV.out; have hnb9 := gu.out; have hnc9 := nU.out; have jS : w7.cell? ⟨dz, 0, none⟩ = some (.int .i64 a0_0) := (ai cO.out 0).trans rfl; have jR : w7.cell? ⟨dz, 1, none⟩ = some (.int .i64 a0_1) := (ai cO.out 1).trans rfl; have jQ : w7.cell? ⟨dz, 2, none⟩ = some (.slice A0_2 l0_2.length c0_2) := (ai cO.out 2).trans rfl; have jP : w7.cell? ⟨dz, 3, none⟩ = some (.slice A0_3 l0_3.length c0_3) := (ai cO.out 3).trans rfl; have jO := aj cO.out 0; have jN := aj cO.out 1; have jM := aj cO.out 2; have jL := aj cO.out 3; have vW := nT.out; have vV := fy.out; have iM : w7.cell? ⟨dt, 0, none⟩ = some (.int .i64 0) := (ai cH.out 0).trans rfl; have iL : w7.cell? ⟨dt, 1, none⟩ = some (.int .i64 0) := (ai cH.out 1).trans rfl; have iK : w7.cell? ⟨dt, 2, none⟩ = some (.slice none 0 0) := (ai cH.out 2).trans rfl; have iJ : w7.cell? ⟨dt, 3, none⟩ = some (.slice none 0 0) := (ai cH.out 3).trans rfl; have iI := aj cH.out 0; have iH := aj cH.out 1; have iG := aj cH.out 2; have iE := aj cH.out 3) | ((with_reducible refine az (f := 66) rfl ?_); refine bH (some 15) rfl rfl Tryz.func66 (by kernel_rfl) rfl #[.slice A0_2 l0_2.length c0_2, .bool false] rfl (by (try simp only [List.map_toArray, List.map_cons, List.map_nil]); first | done | rfl | (simp only [List.length_drop, List.length_take]; rfl)) ?_; (with_reducible refine (bC.calls k _ _ l0_2 t431 _ ?side1 ?side2 A3.out).mono ?_); (case side1 => exact Kd.ay cy.out (by repeat (first | (with_reducible first | exact HB.out | apply ag | apply af | apply ah | refine ak ?_ fB.out | refine ak ?_ gH.out | refine ak ?_ jE.out) | exact HB.out))); (case side2 => exact cD.out); rintro e w13 ⟨fO, fM, rfl, ho0, hb⟩; refine ⟨_, rfl, ?_⟩; have n0_ := aa.mk (Kd.cU ho0 (aq (by repeat (first | (with_reducible first | exact HB.out | apply ag | apply af | apply ah | refine ak ?_ fB.out | refine ak ?_ gH.out | refine ak ?_ jE.out) | exact HB.out)))); have n1_ := aa.mk (aD (g := dz) (o := .cells #[.int .i64 a0_0, .int .i64 a0_1, .slice A0_2 l0_2.length c0_2, .slice A0_3 l0_3.length c0_3] 24 (0, 0)) (by (with_reducible repeat (first | refine al ?_ _ | refine ao ?_ | refine an ?_ _)); refine cS ?_ gu.out _; (with_reducible repeat (first | refine al ?_ _ | refine ao ?_ | refine an ?_ _)); refine cS ?_ gu.out _; (with_reducible repeat (first | refine al ?_ _ | refine ao ?_ | refine an ?_ _)); exact cO.out) hb); have n2_ := aa.mk (aD (g := du) (o := .cells #[.int .i64 0, .int .i64 0, .slice none 0 0, .slice none 0 0] 28 (0, 0)) (by (with_reducible repeat (first | refine al ?_ _ | refine ao ?_ | refine an ?_ _)); refine cS ?_ fy.out _; (with_reducible repeat (first | refine al ?_ _ | refine ao ?_ | refine an ?_ _)); refine cS ?_ fy.out _; (with_reducible repeat (first | refine al ?_ _ | refine ao ?_ | refine an ?_ _)); exact dA.out) hb); have n3_ := aa.mk (aD (g := dt) (o := .cells #[.int .i64 a0_0, .int .i64 a0_1, .slice none 0 0, .slice none 0 0] 28 (0, 0)) (by (with_reducible repeat (first | refine al ?_ _ | refine ao ?_ | refine an ?_ _)); refine bF (cs := #[.int .i64 a0_0, .int .i64 0, .slice none 0 0, .slice none 0 0]) ?_ 1 _ rfl; (with_reducible repeat (first | refine al ?_ _ | refine ao ?_ | refine an ?_ _)); refine bF (cs := #[.int .i64 0, .int .i64 0, .slice none 0 0, .slice none 0 0]) ?_ 0 _ rfl; (with_reducible repeat (first | refine al ?_ _ | refine ao ?_ | refine an ?_ _)); exact cH.out) hb); have n4_ := aa.mk (ar (by repeat (first | (with_reducible first | exact HB.out | apply ag | apply af | apply ah | refine ak ?_ fB.out | refine ak ?_ gH.out | refine ak ?_ jE.out) | exact HB.out)) hb); clear cO; clear dA; clear cH; clear HB; have kR := n0_; have cO := n1_; have dA := n2_; have cH := n3_; have HB := n4_; clear n0_ n1_ n2_ n3_ n4_; (try clear hb); (try clear hb2); (try clear hk); (try clear hi); (try clear ho0); have sT : w13.cell? ⟨dt, 0, none⟩ = some (.int .i64 a0_0) := (ai cH.out 0).trans rfl; have sS : w13.cell? ⟨dt, 1, none⟩ = some (.int .i64 a0_1) := (ai cH.out 1).trans rfl; have sR : w13.cell? ⟨dt, 2, none⟩ = some (.slice none 0 0) := (ai cH.out 2).trans rfl; have sP : w13.cell? ⟨dt, 3, none⟩ = some (.slice none 0 0) := (ai cH.out 3).trans rfl; have sm := aj cH.out 0; have sk := aj cH.out 1; have sj := aj cH.out 2; have si := aj cH.out 3; have lX : w13.cell? ⟨dz, 0, none⟩ = some (.int .i64 a0_0) := (ai cO.out 0).trans rfl; have lW : w13.cell? ⟨dz, 1, none⟩ = some (.int .i64 a0_1) := (ai cO.out 1).trans rfl; have mX : w13.cell? ⟨dz, 2, none⟩ = some (.slice A0_2 l0_2.length c0_2) := (ai cO.out 2).trans rfl; have mW : w13.cell? ⟨dz, 3, none⟩ = some (.slice A0_3 l0_3.length c0_3) := (ai cO.out 3).trans rfl; have lV := aj cO.out 0; have lS := aj cO.out 1; have mV := aj cO.out 2; have mT := aj cO.out 3) | ((with_reducible refine az (f := 66) rfl ?_); refine bH (some 20) rfl rfl Tryz.func66 (by kernel_rfl) rfl #[.slice A0_3 l0_3.length c0_3, .bool false] rfl (by (try simp only [List.map_toArray, List.map_cons, List.map_nil]); first | done | rfl | (simp only [List.length_drop, List.length_take]; rfl)) ?_; (with_reducible refine (bC.calls k _ _ l0_3 t434 _ ?side1 ?side2 A4.out).mono ?_); (case side1 => exact Kd.ay cG.out (by repeat (first | (with_reducible first | exact HB.out | apply ag | apply af | apply ah | refine ak ?_ fB.out | refine ak ?_ gH.out | refine ak ?_ jE.out) | exact HB.out))); (case side2 => exact cJ.out); rintro e w17 ⟨oP, oM, rfl, ho0, hb⟩; refine ⟨_, rfl, ?_⟩; have n0_ := aa.mk (Kd.qf (by (with_reducible repeat (first | apply Kd.aH | apply Kd.aG | apply Kd.aV)); exact (Kd.bT (Kd.bp (p := ⟨dt, 2, none⟩) (Kd.cT kR.out cH.out (by decide)) (fun _ hk => hk.2) (.slice fO l0_2.length fM)) (fun _ h_ => h_.1))) (Kd.kM ho0) hb); have n1_ := aa.mk (Kd.cU (Kd.qd ho0 (Kd.ki (by (with_reducible repeat (first | apply Kd.aH | apply Kd.aG | apply Kd.aV)); exact (Kd.bT (Kd.bp (p := ⟨dt, 2, none⟩) (Kd.cT kR.out cH.out (by decide)) (fun _ hk => hk.2) (.slice fO l0_2.length fM)) (fun _ h_ => h_.1))))) (aq (by repeat (first | (with_reducible first | exact HB.out | apply ag | apply af | apply ah | refine ak ?_ fB.out | refine ak ?_ gH.out | refine ak ?_ jE.out) | exact HB.out)))); have n2_ := aa.mk (aD (g := dz) (o := .cells #[.int .i64 a0_0, .int .i64 a0_1, .slice A0_2 l0_2.length c0_2, .slice A0_3 l0_3.length c0_3] 24 (0, 0)) (by (with_reducible repeat (first | refine al ?_ _ | refine ao ?_ | refine an ?_ _)); refine cS ?_ gu.out _; (with_reducible repeat (first | refine al ?_ _ | refine ao ?_ | refine an ?_ _)); exact cO.out) hb); have n3_ := aa.mk (aD (g := du) (o := .cells #[.int .i64 0, .int .i64 0, .slice none 0 0, .slice none 0 0] 28 (0, 0)) (by (with_reducible repeat (first | refine al ?_ _ | refine ao ?_ | refine an ?_ _)); refine cS ?_ fy.out _; (with_reducible repeat (first | refine al ?_ _ | refine ao ?_ | refine an ?_ _)); exact dA.out) hb); have n4_ := aa.mk (aD (g := dt) (o := .cells #[.int .i64 a0_0, .int .i64 a0_1, .slice fO l0_2.length fM, .slice none 0 0] 28 (0, 0)) (by (with_reducible repeat (first | refine al ?_ _ | refine ao ?_ | refine an ?_ _)); refine bF (cs := #[.int .i64 a0_0, .int .i64 a0_1, .slice none 0 0, .slice none 0 0]) ?_ 2 _ rfl; (with_reducible repeat (first | refine al ?_ _ | refine ao ?_ | refine an ?_ _)); exact cH.out) hb); have n5_ := aa.mk (ar (by repeat (first | (with_reducible first | exact HB.out | apply ag | apply af | apply ah | refine ak ?_ fB.out | refine ak ?_ gH.out | refine ak ?_ jE.out) | exact HB.out)) hb); clear kR; clear cO; clear dA; clear cH; clear HB; have kR := n0_; have xq := n1_; have cO := n2_; have dA := n3_; have cH := n4_; have HB := n5_; clear n0_ n1_ n2_ n3_ n4_ n5_; (try clear hb); (try clear hb2); (try clear hk); (try clear hi); (try clear ho0); have wP : w17.cell? ⟨dt, 0, none⟩ = some (.int .i64 a0_0) := (ai cH.out 0).trans rfl; have wO : w17.cell? ⟨dt, 1, none⟩ = some (.int .i64 a0_1) := (ai cH.out 1).trans rfl; have wN : w17.cell? ⟨dt, 2, none⟩ = some (.slice fO l0_2.length fM) := (ai cH.out 2).trans rfl; have wM : w17.cell? ⟨dt, 3, none⟩ = some (.slice none 0 0) := (ai cH.out 3).trans rfl; have wu := aj cH.out 0; have wq := aj cH.out 1; have wm := aj cH.out 2; have wk := aj cH.out 3; have sM : w17.cell? ⟨du, 0, none⟩ = some (.int .i64 0) := (ai dA.out 0).trans rfl; have sL : w17.cell? ⟨du, 1, none⟩ = some (.int .i64 0) := (ai dA.out 1).trans rfl; have sK : w17.cell? ⟨du, 2, none⟩ = some (.slice none 0 0) := (ai dA.out 2).trans rfl; have sJ : w17.cell? ⟨du, 3, none⟩ = some (.slice none 0 0) := (ai dA.out 3).trans rfl; have sd := aj dA.out 0; have sc := aj dA.out 1; have sb := aj dA.out 2; have sa := aj dA.out 3))
 refine bodyPost_ret (results_cell_row rfl _ _ du 28 #[.int .i64 a0_0, .int .i64 a0_1, .slice fO l0_2.length fM, .slice oP l0_3.length oM] (0, 0) _ rfl (by (with_reducible repeat (first | refine al ?_ _ | refine ao ?_ | refine an ?_ _)); refine bF (cs := #[.int .i64 a0_0, .int .i64 a0_1, .slice fO l0_2.length fM, .slice none 0 0]) ?_ 3 _ rfl; (with_reducible repeat (first | refine al ?_ _ | refine ao ?_ | refine an ?_ _)); refine bF (cs := #[.int .i64 a0_0, .int .i64 a0_1, .slice none 0 0, .slice none 0 0]) ?_ 2 _ rfl; (with_reducible repeat (first | refine al ?_ _ | refine ao ?_ | refine an ?_ _)); refine bF (cs := #[.int .i64 a0_0, .int .i64 0, .slice none 0 0, .slice none 0 0]) ?_ 1 _ rfl; (with_reducible repeat (first | refine al ?_ _ | refine ao ?_ | refine an ?_ _)); refine bF (cs := #[.int .i64 0, .int .i64 0, .slice none 0 0, .slice none 0 0]) ?_ 0 _ rfl; (with_reducible repeat (first | refine al ?_ _ | refine ao ?_ | refine an ?_ _)); refine cS ?_ fy.out _; (with_reducible repeat (first | refine al ?_ _ | refine ao ?_ | refine an ?_ _)); exact dA.out) Tryz.underlying28 rfl (by kernel_rfl)) rfl ?_
 exact ⟨fO, fM, oP, oM, by first | rfl | (simp [av, au] <;> rfl) | (simp [*, av, au] <;> rfl), by (with_reducible repeat (first | apply Kd.aH | apply Kd.aG | apply Kd.aV)); exact Kd.bT (Kd.bp (p := ⟨du, 3, none⟩) (Kd.bp (p := ⟨du, 2, none⟩) (Kd.bp (p := ⟨du, 1, none⟩) (Kd.bp (p := ⟨du, 0, none⟩) (Kd.bp (p := ⟨dt, 3, none⟩) (Kd.cT (Kd.cT kR.out cH.out (by decide)) dA.out (by decide)) (fun _ hk => hk.1.2) (.slice oP l0_3.length oM)) (fun _ hk => hk.2) (.int .i64 a0_0)) (fun _ hk => hk.2) (.int .i64 a0_1)) (fun _ hk => hk.2) (.slice fO l0_2.length fM)) (fun _ hk => hk.2) (.slice oP l0_3.length oM)) (fun _ hk => hk.1.1.2), by (with_reducible repeat (first | apply Kd.aH | apply Kd.aG | apply Kd.aV)); exact Kd.bT (Kd.bp (p := ⟨du, 3, none⟩) (Kd.bp (p := ⟨du, 2, none⟩) (Kd.bp (p := ⟨du, 1, none⟩) (Kd.bp (p := ⟨du, 0, none⟩) (Kd.bp (p := ⟨dt, 3, none⟩) (Kd.cT (Kd.cT xq.out cH.out (by decide)) dA.out (by decide)) (fun _ hk => hk.1.2) (.slice oP l0_3.length oM)) (fun _ hk => hk.2) (.int .i64 a0_0)) (fun _ hk => hk.2) (.int .i64 a0_1)) (fun _ hk => hk.2) (.slice fO l0_2.length fM)) (fun _ hk => hk.2) (.slice oP l0_3.length oM)) (fun _ hk => hk.1.1.2), by repeat (first | (with_reducible first | exact HB.out | apply ag | apply af | apply ah | refine ak ?_ fB.out | refine ak ?_ gH.out | refine ak ?_ jE.out) | exact HB.out)⟩
def er.f (k : Nat) (a0_0 : Int) (a0_1 : Int) (l0_2 : List Int) (l0_3 : List Int) (a0_4 : Int) (a0_5 : Bool) (a0_6 : Int) : Option (Int × Int × List Int × List Int × Int × Bool × Int) := (fu.f k a0_0 a0_1 l0_2 l0_3).bind fun bt440 => (some (bt440.1, bt440.2.1, bt440.2.2.1, bt440.2.2.2, a0_4, a0_5, a0_6))
set_option maxHeartbeats 8000000 in
set_option maxRecDepth 100000 in
theorem er.calls (k : Nat) (a0_0 : Int) (a0_1 : Int) (A0_2 : Option Addr) (c0_2 : Nat) (l0_2 : List Int) (A0_3 : Option Addr) (c0_3 : Nat) (l0_3 : List Int) (a0_4 : Int) (a0_5 : Bool) (a0_6 : Int) (r1 : Int) (r2 : Int) (r3 : List Int) (r4 : List Int) (r5 : Int) (r6 : Bool) (r7 : Int) (w : World) (b0 : Kd.C (Kd.int .i64) w A0_2 l0_2.length l0_2) (bW : l0_2.length ≤ c0_2) (bZ : Kd.C (Kd.int .i64) w A0_3 l0_3.length l0_3) (bV : l0_3.length ≤ c0_3) (h : er.f k a0_0 a0_1 l0_2 l0_3 a0_4 a0_5 a0_6 = some (r1, r2, r3, r4, r5, r6, r7)) :
  Calls Tryz.prog 11 #[.agg #[.int .i64 a0_0, .int .i64 a0_1, .slice A0_2 l0_2.length c0_2, .slice A0_3 l0_3.length c0_3, .int .i64 a0_4, .bool a0_5, .int .i64 a0_6], .bool false] w fun e w' => ∃ (A2_ : Option Addr) (c2_ : Nat) (A3_ : Option Addr) (c3_ : Nat), e = .returned (.agg #[.int .i64 r1, .int .i64 r2, .slice A2_ l0_2.length c2_, .slice A3_ l0_3.length c3_, .int .i64 r5, .bool r6, .int .i64 r7]) ∧ Kd.R (Kd.int .i64) 3 w' w.heap.size (fun k_ => some k_ ≠ (Value.slice A3_ r4.length c3_).ownBlock) (.slice A2_ r3.length c2_) r3 ∧ Kd.R (Kd.int .i64) 3 w' w.heap.size (fun k_ => some k_ ≠ (Value.slice A2_ r3.length c2_).ownBlock) (.slice A3_ r4.length c3_) r4 ∧ Below w.heap.size w w' := by
 have hu26 := Tryz.underlying26
 have hu32 := Tryz.underlying32
 have hu24 := Tryz.underlying24
 have hu28 := Tryz.underlying28
 have cy := aa.mk b0
 have cD := aa.mk bW
 clear b0 bW
 have cG := aa.mk bZ
 have cJ := aa.mk bV
 clear bZ bV
 have HB := aa.mk (Below.refl w.heap.size w)
 have H : ((fu.f k a0_0 a0_1 l0_2 l0_3).bind fun bt440 => (some (bt440.1, bt440.2.1, bt440.2.2.1, bt440.2.2.2, a0_4, a0_5, a0_6))) = some (r1, r2, r3, r4, r5, r6, r7) := h
 clear h
 replace H := Option.bind_eq_some_iff.mp H
 obtain ⟨⟨t440, t441, t442, t445⟩, A30, H⟩ := H
 replace H : (some (t440, t441, t442, t445, a0_4, a0_5, a0_6)) = some (r1, r2, r3, r4, r5, r6, r7) := H
 have A3 := aa.mk A30
 clear A30
 simp only [Option.some.injEq, Prod.mk.injEq] at H
 obtain ⟨rfl, rfl, rfl, rfl, rfl, rfl, rfl⟩ := H
 go_enter Tryz.func11, Tryz.ntmps11
 go_wp2_with (first | ((with_reducible refine aQ (N := 2) rfl ?_); refine aM ?hg (N := 2) ?hd (cs := #[.int .i64 a0_0, .int .i64 a0_1, .slice A0_2 l0_2.length c0_2, .slice A0_3 l0_3.length c0_3, .int .i64 a0_4, .bool a0_5, .int .i64 a0_6]) (t := 26) ?hr ?_; (case hd => rfl); (case hg => rfl); (case hr => first | (go_simp; done) | (go_simp; rfl)); intro de hg w4 hbox hb; have n0_ := aa.mk (ar (by repeat (first | (with_reducible first | exact HB.out | apply ag | apply af | apply ah) | exact HB.out)) hb); have n1_ := aa.mk (hbox); have n2_ := aa.mk ((by rw [hg]; exact (aq (by repeat (first | (with_reducible first | exact HB.out | apply ag | apply af | apply ah) | exact HB.out))) : w.heap.size ≤ de)); have n3_ := aa.mk ((by rw [hg]; exact (aq (by repeat (first | (with_reducible first | exact HB.out | apply ag | apply af | apply ah) | exact HB.out))) : w.heap.size ≤ de)); clear HB; have HB := n0_; have cn := n1_; have FP := n2_; have gG := n3_; clear n0_ n1_ n2_ n3_; clear hb hbox hg) | ((with_reducible refine aQ (N := 4) rfl ?_); refine aM ?hg (N := 4) ?hd (cs := #[.int .i64 0, .int .i64 0, .slice none 0 0, .slice none 0 0, .int .i64 0, .bool false, .int .i64 0]) (t := 32) ?hr ?_; (case hd => rfl); (case hg => rfl); (case hr => first | (go_simp; done) | (go_simp; rfl)); intro cN hg w5 hbox hb; have n0_ := aa.mk (aD (g := de) (o := .cells #[.int .i64 a0_0, .int .i64 a0_1, .slice A0_2 l0_2.length c0_2, .slice A0_3 l0_3.length c0_3, .int .i64 a0_4, .bool a0_5, .int .i64 a0_6] 26 (0, 0)) (by (with_reducible repeat (first | refine al ?_ _ | refine ao ?_ | refine an ?_ _)); exact cn.out) hb); have n1_ := aa.mk (ar (by repeat (first | (with_reducible first | exact HB.out | apply ag | apply af | apply ah | refine ak ?_ gG.out) | exact HB.out)) hb); have n2_ := aa.mk (hbox); have n3_ := aa.mk ((by rw [hg]; exact (aq (by repeat (first | (with_reducible first | exact HB.out | apply ag | apply af | apply ah | refine ak ?_ gG.out) | exact HB.out))) : w.heap.size ≤ cN)); have n4_ := aa.mk ((by rw [hg]; exact (aq (by repeat (first | (with_reducible first | exact HB.out | apply ag | apply af | apply ah | refine ak ?_ gG.out) | exact HB.out))) : w.heap.size ≤ cN)); have n5_ := aa.mk ((by rw [hg]; exact Nat.ne_of_lt (a7 (g := de) (o := .cells #[.int .i64 a0_0, .int .i64 a0_1, .slice A0_2 l0_2.length c0_2, .slice A0_3 l0_3.length c0_3, .int .i64 a0_4, .bool a0_5, .int .i64 a0_6] 26 (0, 0)) (by (with_reducible repeat (first | refine al ?_ _ | refine ao ?_ | refine an ?_ _)); exact cn.out)) : de ≠ cN)); have n6_ := aa.mk ((by rw [hg]; exact Nat.ne_of_gt (a7 (g := de) (o := .cells #[.int .i64 a0_0, .int .i64 a0_1, .slice A0_2 l0_2.length c0_2, .slice A0_3 l0_3.length c0_3, .int .i64 a0_4, .bool a0_5, .int .i64 a0_6] 26 (0, 0)) (by (with_reducible repeat (first | refine al ?_ _ | refine ao ?_ | refine an ?_ _)); exact cn.out)) : cN ≠ de)); clear cn; clear HB; have cn := n0_; have HB := n1_; have dn := n2_; have FO := n3_; have jD := n4_; have nS := n5_; have nQ := n6_; clear n0_ n1_ n2_ n3_ n4_ n5_ n6_; clear hb hbox hg) | ((with_reducible refine aQ (N := 5) rfl ?_); refine aM ?hg (N := 5) ?hd (cs := #[.int .i64 0, .int .i64 0, .slice none 0 0, .slice none 0 0, .int .i64 0, .bool false, .int .i64 0]) (t := 32) ?hr ?_; (case hd => rfl); (case hg => rfl); (case hr => first | (go_simp; done) | (go_simp; rfl)); intro da hg w6 hbox hb; have n0_ := aa.mk (aD (g := de) (o := .cells #[.int .i64 a0_0, .int .i64 a0_1, .slice A0_2 l0_2.length c0_2, .slice A0_3 l0_3.length c0_3, .int .i64 a0_4, .bool a0_5, .int .i64 a0_6] 26 (0, 0)) (by (with_reducible repeat (first | refine al ?_ _ | refine ao ?_ | refine an ?_ _)); exact cn.out) hb); have n1_ := aa.mk (aD (g := cN) (o := .cells #[.int .i64 0, .int .i64 0, .slice none 0 0, .slice none 0 0, .int .i64 0, .bool false, .int .i64 0] 32 (0, 0)) (by (with_reducible repeat (first | refine al ?_ _ | refine ao ?_ | refine an ?_ _)); exact dn.out) hb); have n2_ := aa.mk (ar (by repeat (first | (with_reducible first | exact HB.out | apply ag | apply af | apply ah | refine ak ?_ gG.out | refine ak ?_ jD.out) | exact HB.out)) hb); have n3_ := aa.mk (hbox); have n4_ := aa.mk ((by rw [hg]; exact (aq (by repeat (first | (with_reducible first | exact HB.out | apply ag | apply af | apply ah | refine ak ?_ gG.out | refine ak ?_ jD.out) | exact HB.out))) : w.heap.size ≤ da)); have n5_ := aa.mk ((by rw [hg]; exact (aq (by repeat (first | (with_reducible first | exact HB.out | apply ag | apply af | apply ah | refine ak ?_ gG.out | refine ak ?_ jD.out) | exact HB.out))) : w.heap.size ≤ da)); have n6_ := aa.mk ((by rw [hg]; exact Nat.ne_of_lt (a7 (g := de) (o := .cells #[.int .i64 a0_0, .int .i64 a0_1, .slice A0_2 l0_2.length c0_2, .slice A0_3 l0_3.length c0_3, .int .i64 a0_4, .bool a0_5, .int .i64 a0_6] 26 (0, 0)) (by (with_reducible repeat (first | refine al ?_ _ | refine ao ?_ | refine an ?_ _)); exact cn.out)) : de ≠ da)); have n7_ := aa.mk ((by rw [hg]; exact Nat.ne_of_gt (a7 (g := de) (o := .cells #[.int .i64 a0_0, .int .i64 a0_1, .slice A0_2 l0_2.length c0_2, .slice A0_3 l0_3.length c0_3, .int .i64 a0_4, .bool a0_5, .int .i64 a0_6] 26 (0, 0)) (by (with_reducible repeat (first | refine al ?_ _ | refine ao ?_ | refine an ?_ _)); exact cn.out)) : da ≠ de)); have n8_ := aa.mk ((by rw [hg]; exact Nat.ne_of_lt (a7 (g := cN) (o := .cells #[.int .i64 0, .int .i64 0, .slice none 0 0, .slice none 0 0, .int .i64 0, .bool false, .int .i64 0] 32 (0, 0)) (by (with_reducible repeat (first | refine al ?_ _ | refine ao ?_ | refine an ?_ _)); exact dn.out)) : cN ≠ da)); have n9_ := aa.mk ((by rw [hg]; exact Nat.ne_of_gt (a7 (g := cN) (o := .cells #[.int .i64 0, .int .i64 0, .slice none 0 0, .slice none 0 0, .int .i64 0, .bool false, .int .i64 0] 32 (0, 0)) (by (with_reducible repeat (first | refine al ?_ _ | refine ao ?_ | refine an ?_ _)); exact dn.out)) : da ≠ cN)); clear cn; clear dn; clear HB; have cn := n0_; have dn := n1_; have HB := n2_; have dZ := n3_; have FN := n4_; have nq := n5_; have nR := n6_; have nP := n7_; have dP := n8_; have nN := n9_; clear n0_ n1_ n2_ n3_ n4_ n5_ n6_ n7_ n8_ n9_; clear hb hbox hg; have hnb7 := nS.out; have hnc7 := nQ.out; have Bk := nR.out; have Bj := nP.out; have gO : w6.cell? ⟨de, 0, none⟩ = some (.int .i64 a0_0) := (ai cn.out 0).trans rfl; have gN : w6.cell? ⟨de, 1, none⟩ = some (.int .i64 a0_1) := (ai cn.out 1).trans rfl; have iC : w6.cell? ⟨de, 2, none⟩ = some (.slice A0_2 l0_2.length c0_2) := (ai cn.out 2).trans rfl; have iB : w6.cell? ⟨de, 3, none⟩ = some (.slice A0_3 l0_3.length c0_3) := (ai cn.out 3).trans rfl; have sC : w6.cell? ⟨de, 4, none⟩ = some (.int .i64 a0_4) := (ai cn.out 4).trans rfl; have sB : w6.cell? ⟨de, 5, none⟩ = some (.bool a0_5) := (ai cn.out 5).trans rfl; have va : w6.cell? ⟨de, 6, none⟩ = some (.int .i64 a0_6) := (ai cn.out 6).trans rfl; have gM := aj cn.out 0; have gL := aj cn.out 1; have iA := aj cn.out 2; have iz := aj cn.out 3; have rT := aj cn.out 4; have rS := aj cn.out 5; have u2 := aj cn.out 6) | ((with_reducible refine az (f := 37) rfl ?_); refine bH (some 9) rfl rfl Tryz.func37 (by kernel_rfl) rfl #[.agg #[.int .i64 a0_0, .int .i64 a0_1, .slice A0_2 l0_2.length c0_2, .slice A0_3 l0_3.length c0_3], .bool false] rfl (by (try simp only [List.map_toArray, List.map_cons, List.map_nil]); first | done | rfl | (simp only [List.length_drop, List.length_take]; rfl)) ?_; (with_reducible refine (fu.calls k a0_0 a0_1 _ _ l0_2 _ _ l0_3 t440 t441 t442 t445 _ ?side1 ?side2 ?side3 ?side4 A3.out).mono ?_); (case side1 => repeat (first | exact (Kd.ay cy.out HB.out) | (with_reducible refine Kd.aX ?_ _) | (with_reducible refine Kd.aW ?_ _) | (with_reducible refine Kd.bn ?_))); (case side2 => exact cD.out); (case side3 => repeat (first | exact (Kd.ay cG.out HB.out) | (with_reducible refine Kd.aX ?_ _) | (with_reducible refine Kd.aW ?_ _) | (with_reducible refine Kd.bn ?_))); (case side4 => exact cJ.out); rintro e w10 ⟨jF, jd, fO, fM, rfl, ho0, ho1, hb⟩; refine ⟨_, rfl, ?_⟩; have n0_ := aa.mk (Kd.cU ho0 (aq (by repeat (first | (with_reducible first | exact HB.out | apply ag | apply af | apply ah | refine ak ?_ gG.out | refine ak ?_ jD.out | refine ak ?_ nq.out) | exact HB.out)))); have n1_ := aa.mk (Kd.cU ho1 (aq (by repeat (first | (with_reducible first | exact HB.out | apply ag | apply af | apply ah | refine ak ?_ gG.out | refine ak ?_ jD.out | refine ak ?_ nq.out) | exact HB.out)))); have n2_ := aa.mk (aD (g := de) (o := .cells #[.int .i64 a0_0, .int .i64 a0_1, .slice A0_2 l0_2.length c0_2, .slice A0_3 l0_3.length c0_3, .int .i64 a0_4, .bool a0_5, .int .i64 a0_6] 26 (0, 0)) (by (with_reducible repeat (first | refine al ?_ _ | refine ao ?_ | refine an ?_ _)); exact cn.out) hb); have n3_ := aa.mk (aD (g := cN) (o := .cells #[.int .i64 0, .int .i64 0, .slice none 0 0, .slice none 0 0, .int .i64 0, .bool false, .int .i64 0] 32 (0, 0)) (by (with_reducible repeat (first | refine al ?_ _ | refine ao ?_ | refine an ?_ _)); exact dn.out) hb); have n4_ := aa.mk (aD (g := da) (o := .cells #[.int .i64 0, .int .i64 0, .slice none 0 0, .slice none 0 0, .int .i64 0, .bool false, .int .i64 0] 32 (0, 0)) (by (with_reducible repeat (first | refine al ?_ _ | refine ao ?_ | refine an ?_ _)); exact dZ.out) hb); have n5_ := aa.mk (ar (by repeat (first | (with_reducible first | exact HB.out | apply ag | apply af | apply ah | refine ak ?_ gG.out | refine ak ?_ jD.out | refine ak ?_ nq.out) | exact HB.out)) hb); clear cn; clear dn; clear dZ; clear HB; have xp := n0_; have xo := n1_; have cn := n2_; have dn := n3_; have dZ := n4_; have HB := n5_; clear n0_ n1_ n2_ n3_ n4_ n5_; (try clear hb); (try clear hb2); (try clear hk); (try clear hi); (try clear ho0); (try clear ho1); have vW := nN.out; have vV := dP.out; have iM : w10.cell? ⟨da, 0, none⟩ = some (.int .i64 0) := (ai dZ.out 0).trans rfl; have iL : w10.cell? ⟨da, 1, none⟩ = some (.int .i64 0) := (ai dZ.out 1).trans rfl; have iK : w10.cell? ⟨da, 2, none⟩ = some (.slice none 0 0) := (ai dZ.out 2).trans rfl; have iJ : w10.cell? ⟨da, 3, none⟩ = some (.slice none 0 0) := (ai dZ.out 3).trans rfl; have sY : w10.cell? ⟨da, 4, none⟩ = some (.int .i64 0) := (ai dZ.out 4).trans rfl; have sX : w10.cell? ⟨da, 5, none⟩ = some (.bool false) := (ai dZ.out 5).trans rfl; have sW : w10.cell? ⟨da, 6, none⟩ = some (.int .i64 0) := (ai dZ.out 6).trans rfl; have iI := aj dZ.out 0; have iH := aj dZ.out 1; have iG := aj dZ.out 2; have iE := aj dZ.out 3; have sA := aj dZ.out 4; have sy := aj dZ.out 5; have sv := aj dZ.out 6; have sT : w10.cell? ⟨de, 0, none⟩ = some (.int .i64 a0_0) := (ai cn.out 0).trans rfl; have sS : w10.cell? ⟨de, 1, none⟩ = some (.int .i64 a0_1) := (ai cn.out 1).trans rfl; have sR : w10.cell? ⟨de, 2, none⟩ = some (.slice A0_2 l0_2.length c0_2) := (ai cn.out 2).trans rfl; have sP : w10.cell? ⟨de, 3, none⟩ = some (.slice A0_3 l0_3.length c0_3) := (ai cn.out 3).trans rfl; have BZ : w10.cell? ⟨de, 4, none⟩ = some (.int .i64 a0_4) := (ai cn.out 4).trans rfl; have BX : w10.cell? ⟨de, 5, none⟩ = some (.bool a0_5) := (ai cn.out 5).trans rfl; have BV : w10.cell? ⟨de, 6, none⟩ = some (.int .i64 a0_6) := (ai cn.out 6).trans rfl; have sm := aj cn.out 0; have sk := aj cn.out 1; have sj := aj cn.out 2; have si := aj cn.out 3; have BC := aj cn.out 4; have BB := aj cn.out 5; have BA := aj cn.out 6; have lX : w10.cell? ⟨cN, 0, none⟩ = some (.int .i64 0) := (ai dn.out 0).trans rfl; have lW : w10.cell? ⟨cN, 1, none⟩ = some (.int .i64 0) := (ai dn.out 1).trans rfl; have mX : w10.cell? ⟨cN, 2, none⟩ = some (.slice none 0 0) := (ai dn.out 2).trans rfl; have mW : w10.cell? ⟨cN, 3, none⟩ = some (.slice none 0 0) := (ai dn.out 3).trans rfl; have BU : w10.cell? ⟨cN, 4, none⟩ = some (.int .i64 0) := (ai dn.out 4).trans rfl; have BT : w10.cell? ⟨cN, 5, none⟩ = some (.bool false) := (ai dn.out 5).trans rfl; have BS : w10.cell? ⟨cN, 6, none⟩ = some (.int .i64 0) := (ai dn.out 6).trans rfl; have lV := aj dn.out 0; have lS := aj dn.out 1; have mV := aj dn.out 2; have mT := aj dn.out 3; have Bz := aj dn.out 4; have Bx := aj dn.out 5; have Bw := aj dn.out 6))
 refine bodyPost_ret (results_cell_row rfl _ _ cN 32 #[.int .i64 t440, .int .i64 t441, .slice jF l0_2.length jd, .slice fO l0_3.length fM, .int .i64 a0_4, .bool a0_5, .int .i64 a0_6] (0, 0) _ rfl (by (with_reducible repeat (first | refine al ?_ _ | refine ao ?_ | refine an ?_ _)); refine bF (cs := #[.int .i64 t440, .int .i64 t441, .slice jF l0_2.length jd, .slice fO l0_3.length fM, .int .i64 a0_4, .bool a0_5, .int .i64 0]) ?_ 6 _ rfl; (with_reducible repeat (first | refine al ?_ _ | refine ao ?_ | refine an ?_ _)); refine bF (cs := #[.int .i64 t440, .int .i64 t441, .slice jF l0_2.length jd, .slice fO l0_3.length fM, .int .i64 a0_4, .bool false, .int .i64 0]) ?_ 5 _ rfl; (with_reducible repeat (first | refine al ?_ _ | refine ao ?_ | refine an ?_ _)); refine bF (cs := #[.int .i64 t440, .int .i64 t441, .slice jF l0_2.length jd, .slice fO l0_3.length fM, .int .i64 0, .bool false, .int .i64 0]) ?_ 4 _ rfl; (with_reducible repeat (first | refine al ?_ _ | refine ao ?_ | refine an ?_ _)); refine bF (cs := #[.int .i64 t440, .int .i64 t441, .slice jF l0_2.length jd, .slice none 0 0, .int .i64 0, .bool false, .int .i64 0]) ?_ 3 _ rfl; (with_reducible repeat (first | refine al ?_ _ | refine ao ?_ | refine an ?_ _)); refine bF (cs := #[.int .i64 t440, .int .i64 t441, .slice none 0 0, .slice none 0 0, .int .i64 0, .bool false, .int .i64 0]) ?_ 2 _ rfl; (with_reducible repeat (first | refine al ?_ _ | refine ao ?_ | refine an ?_ _)); refine bF (cs := #[.int .i64 t440, .int .i64 0, .slice none 0 0, .slice none 0 0, .int .i64 0, .bool false, .int .i64 0]) ?_ 1 _ rfl; (with_reducible repeat (first | refine al ?_ _ | refine ao ?_ | refine an ?_ _)); refine bF (cs := #[.int .i64 0, .int .i64 0, .slice none 0 0, .slice none 0 0, .int .i64 0, .bool false, .int .i64 0]) ?_ 0 _ rfl; (with_reducible repeat (first | refine al ?_ _ | refine ao ?_ | refine an ?_ _)); refine cS ?_ dP.out _; (with_reducible repeat (first | refine al ?_ _ | refine ao ?_ | refine an ?_ _)); refine cS ?_ dP.out _; (with_reducible repeat (first | refine al ?_ _ | refine ao ?_ | refine an ?_ _)); refine cS ?_ dP.out _; (with_reducible repeat (first | refine al ?_ _ | refine ao ?_ | refine an ?_ _)); refine cS ?_ dP.out _; (with_reducible repeat (first | refine al ?_ _ | refine ao ?_ | refine an ?_ _)); refine cS ?_ dP.out _; (with_reducible repeat (first | refine al ?_ _ | refine ao ?_ | refine an ?_ _)); refine cS ?_ dP.out _; (with_reducible repeat (first | refine al ?_ _ | refine ao ?_ | refine an ?_ _)); refine cS ?_ dP.out _; (with_reducible repeat (first | refine al ?_ _ | refine ao ?_ | refine an ?_ _)); exact dn.out) Tryz.underlying32 rfl (by kernel_rfl)) rfl ?_
 exact ⟨jF, jd, fO, fM, by first | rfl | (simp [av, au] <;> rfl) | (simp [*, av, au] <;> rfl), by (with_reducible repeat (first | apply Kd.aH | apply Kd.aG | apply Kd.aV)); exact Kd.bT (Kd.bp (p := ⟨cN, 6, none⟩) (Kd.bp (p := ⟨cN, 5, none⟩) (Kd.bp (p := ⟨cN, 4, none⟩) (Kd.bp (p := ⟨cN, 3, none⟩) (Kd.bp (p := ⟨cN, 2, none⟩) (Kd.bp (p := ⟨cN, 1, none⟩) (Kd.bp (p := ⟨cN, 0, none⟩) (Kd.bp (p := ⟨da, 6, none⟩) (Kd.bp (p := ⟨da, 5, none⟩) (Kd.bp (p := ⟨da, 4, none⟩) (Kd.bp (p := ⟨da, 3, none⟩) (Kd.bp (p := ⟨da, 2, none⟩) (Kd.bp (p := ⟨da, 1, none⟩) (Kd.bp (p := ⟨da, 0, none⟩) (Kd.cT (Kd.cT xp.out dZ.out (by decide)) dn.out (by decide)) (fun _ hk => hk.1.2) (.int .i64 t440)) (fun _ hk => hk.1.2) (.int .i64 t441)) (fun _ hk => hk.1.2) (.slice jF l0_2.length jd)) (fun _ hk => hk.1.2) (.slice fO l0_3.length fM)) (fun _ hk => hk.1.2) (.int .i64 a0_4)) (fun _ hk => hk.1.2) (.bool a0_5)) (fun _ hk => hk.1.2) (.int .i64 a0_6)) (fun _ hk => hk.2) (.int .i64 t440)) (fun _ hk => hk.2) (.int .i64 t441)) (fun _ hk => hk.2) (.slice jF l0_2.length jd)) (fun _ hk => hk.2) (.slice fO l0_3.length fM)) (fun _ hk => hk.2) (.int .i64 a0_4)) (fun _ hk => hk.2) (.bool a0_5)) (fun _ hk => hk.2) (.int .i64 a0_6)) (fun _ hk => hk.1.1), by (with_reducible repeat (first | apply Kd.aH | apply Kd.aG | apply Kd.aV)); exact Kd.bT (Kd.bp (p := ⟨cN, 6, none⟩) (Kd.bp (p := ⟨cN, 5, none⟩) (Kd.bp (p := ⟨cN, 4, none⟩) (Kd.bp (p := ⟨cN, 3, none⟩) (Kd.bp (p := ⟨cN, 2, none⟩) (Kd.bp (p := ⟨cN, 1, none⟩) (Kd.bp (p := ⟨cN, 0, none⟩) (Kd.bp (p := ⟨da, 6, none⟩) (Kd.bp (p := ⟨da, 5, none⟩) (Kd.bp (p := ⟨da, 4, none⟩) (Kd.bp (p := ⟨da, 3, none⟩) (Kd.bp (p := ⟨da, 2, none⟩) (Kd.bp (p := ⟨da, 1, none⟩) (Kd.bp (p := ⟨da, 0, none⟩) (Kd.cT (Kd.cT xo.out dZ.out (by decide)) dn.out (by decide)) (fun _ hk => hk.1.2) (.int .i64 t440)) (fun _ hk => hk.1.2) (.int .i64 t441)) (fun _ hk => hk.1.2) (.slice jF l0_2.length jd)) (fun _ hk => hk.1.2) (.slice fO l0_3.length fM)) (fun _ hk => hk.1.2) (.int .i64 a0_4)) (fun _ hk => hk.1.2) (.bool a0_5)) (fun _ hk => hk.1.2) (.int .i64 a0_6)) (fun _ hk => hk.2) (.int .i64 t440)) (fun _ hk => hk.2) (.int .i64 t441)) (fun _ hk => hk.2) (.slice jF l0_2.length jd)) (fun _ hk => hk.2) (.slice fO l0_3.length fM)) (fun _ hk => hk.2) (.int .i64 a0_4)) (fun _ hk => hk.2) (.bool a0_5)) (fun _ hk => hk.2) (.int .i64 a0_6)) (fun _ hk => hk.1.1), by repeat (first | (with_reducible first | exact HB.out | apply ag | apply af | apply ah | refine ak ?_ gG.out | refine ak ?_ jD.out | refine ak ?_ nq.out) | exact HB.out)⟩
end Go.Proofs.YtmjlmloomkodpaaGreatDoor.PA
namespace Go.Proofs.YtmjlmloomkodpaaGreatDoor.PA
open Go.RowKit Go.Proofs.ae.aw Go.Proofs.ae.aJ Go.Proofs.ae.aN
attribute [local go_sem] bm bh bA bz a6 aZ bj bf
set_option linter.unusedVariables false
set_option linter.unusedSimpArgs false
def bN.l0 : Nat → List Int → List Int → Int → Option (Bool)
 | 0, _, _, _ => none
 | k + 1, x0, x1, x5 => if x5 < (x0.length : Int) then (if 0 ≤ x5 then (if x5 < (x1.length : Int) then (if (rd x0 x5) = (rd x1 x5) then (bN.l0 k x0 x1 (wrap64 (x5 + 1))) else (some false)) else (none)) else (none)) else (some true)
def bN.f (k : Nat) (l0 : List Int) (l1 : List Int) : Option (Bool) := if (l0.length : Int) = (l1.length : Int) then (bN.l0 k l0 l1 0) else (some false)
set_option maxHeartbeats 8000000 in
set_option maxRecDepth 100000 in
theorem bN.calls (k : Nat) (A0 : Option Addr) (c0 : Nat) (l0 : List Int) (A1 : Option Addr) (c1 : Nat) (l1 : List Int) (r : Bool) (w : World) (hr0 : Kd.C (Kd.int .i64) w A0 l0.length l0) (hc0 : l0.length ≤ c0) (hr1 : Kd.C (Kd.int .i64) w A1 l1.length l1) (hc1 : l1.length ≤ c1) (h : bN.f k l0 l1 = some r) :
  Calls Tryz.prog 41 #[.slice A0 l0.length c0, .slice A1 l1.length c1] w fun e w' => e = .returned (.bool r) ∧ aK w w' := by
 have HR0 := aa.mk hr0
 have HC0 := aa.mk hc0
 clear hr0 hc0
 have HR1 := aa.mk hr1
 have HC1 := aa.mk hc1
 clear hr1 hc1
 have H : (if (l0.length : Int) = (l1.length : Int) then (bN.l0 k l0 l1 0) else (some false)) = some r := h
 clear h
 by_cases c3 : (l0.length : Int) = (l1.length : Int)
 ·rw [if_pos c3] at H
  have c3b0 : ((l0.length : Int) == (l1.length : Int)) = true := beq_iff_eq.mpr c3
  have c3b1 : ((l0.length : Int) != (l1.length : Int)) = false := bne_eq_false_iff_eq.mpr c3
  have c3b2 : (l0.length == l1.length) = true := by first | simpa using c3 | (simp at c3 ⊢; omega)
  clear c3
  have H' := aa.mk H
  clear H
  go_enter Tryz.func41, Tryz.ntmps41
  go_wp2
  repeat (go_quiet (fail); try go_wp2)
  go_loopg [5] k (fun kq v5 w' => ∃ (x5_1 : Int), v5 = .int .i64 x5_1 ∧ aa (bN.l0 kq l0 l1 x5_1 = some r) ∧ aa (kq ≤ k) ∧ aK w w')
  case atStart => exact ⟨(0), (by first | rfl | (simp; done) | (simp [*]; done)), H', ⟨Nat.le_refl _⟩, by repeat (first | exact aK.refl _ | apply aK.step)⟩
  case round =>
   clear H'
   try clear c1
   try clear p2
   try clear c3
   try clear c3b0
   try clear c3b1
   try clear c3b2
   obtain ⟨x5_1, rfl, HA, HK1, ⟨m1, rfl⟩⟩ := hrel
   cases gk with
   | zero => exact absurd HA.out (by simp [bN.l0])
   | succ k1 =>
    have H := HA.out
    clear HA
    simp only [bN.l0] at H
    by_cases c4 : x5_1 < (l0.length : Int)
    ·rw [if_pos c4] at H
     have c4b0 : decide (x5_1 < (l0.length : Int)) = true := decide_eq_true c4
     clear c4
     by_cases c5 : 0 ≤ x5_1
     ·rw [if_pos c5] at H
      have c5b0 : decide (0 ≤ x5_1) = true := decide_eq_true c5
      clear c5
      by_cases c6 : x5_1 < (l1.length : Int)
      ·rw [if_pos c6] at H
       have c6b0 : decide (x5_1 < (l1.length : Int)) = true := decide_eq_true c6
       clear c6
       by_cases c7 : (rd l0 x5_1) = (rd l1 x5_1)
       ·rw [if_pos c7] at H
        have c7b0 : ((rd l0 x5_1) == (rd l1 x5_1)) = true := beq_iff_eq.mpr c7
        have c7b1 : ((rd l0 x5_1) != (rd l1 x5_1)) = false := bne_eq_false_iff_eq.mpr c7
        clear c7
        have H' := aa.mk H
        clear H
        have p393 : 0 ≤ (x5_1 : Int) := of_decide_eq_true (by first | (with_reducible assumption) | assumption)
        have q393 : x5_1 < (l0.length : Int) := of_decide_eq_true (by first | (with_reducible assumption) | assumption)
        obtain ⟨ad393, e393, Ba⟩ := Kd.dr HR0.out x5_1 p393 q393
        cases e393
        replace p393 := eq_true p393
        replace q393 := eq_true q393
        have p394 : 0 ≤ (x5_1 : Int) := of_decide_eq_true (by first | (with_reducible assumption) | assumption)
        have q394 : x5_1 < (l1.length : Int) := of_decide_eq_true (by first | (with_reducible assumption) | assumption)
        obtain ⟨ad394, e394, AZ⟩ := Kd.dr HR1.out x5_1 p394 q394
        cases e394
        replace p394 := eq_true p394
        replace q394 := eq_true q394
        go_wp2
        repeat (go_quiet (fail); try go_wp2)
        go_roundg k1
        case measure => have := HK1.out; omega
        case rel => exact ⟨(wrap64 (x5_1 + 1)), (by first | rfl | (simp; done) | (simp [*]; done)), H', ⟨by have := HK1.out; omega⟩, by repeat (first | exact aK.refl _ | apply aK.step)⟩
       ·rw [if_neg c7] at H
        have c7b0 : ((rd l0 x5_1) == (rd l1 x5_1)) = false := beq_eq_false_iff_ne.mpr c7
        have c7b1 : ((rd l0 x5_1) != (rd l1 x5_1)) = true := bne_iff_ne.mpr c7
        obtain rfl := Option.some.inj H
        have p393 : 0 ≤ (x5_1 : Int) := of_decide_eq_true (by first | (with_reducible assumption) | assumption)
        have q393 : x5_1 < (l0.length : Int) := of_decide_eq_true (by first | (with_reducible assumption) | assumption)
        obtain ⟨ad393, e393, Ba⟩ := Kd.dr HR0.out x5_1 p393 q393
        cases e393
        replace p393 := eq_true p393
        replace q393 := eq_true q393
        have p394 : 0 ≤ (x5_1 : Int) := of_decide_eq_true (by first | (with_reducible assumption) | assumption)
        have q394 : x5_1 < (l1.length : Int) := of_decide_eq_true (by first | (with_reducible assumption) | assumption)
        obtain ⟨ad394, e394, AZ⟩ := Kd.dr HR1.out x5_1 p394 q394
        cases e394
        replace p394 := eq_true p394
        replace q394 := eq_true q394
        go_wp2
        repeat (go_quiet (fail); try go_wp2)
        go_ret
        exact ⟨by first | rfl | (simp; done) | (simp [*]; done), by repeat (first | exact aK.refl _ | apply aK.step)⟩
      ·rw [if_neg c6] at H
       exact absurd H (by simp)
     ·rw [if_neg c5] at H
      exact absurd H (by simp)
    ·rw [if_neg c4] at H
     have c4b0 : decide (x5_1 < (l0.length : Int)) = false := decide_eq_false c4
     clear c4
     obtain rfl := Option.some.inj H
     go_wp2
     repeat (go_quiet (fail); try go_wp2)
     go_ret
     exact ⟨by first | rfl | (simp; done) | (simp [*]; done), by repeat (first | exact aK.refl _ | apply aK.step)⟩
 ·rw [if_neg c3] at H
  have c3b0 : ((l0.length : Int) == (l1.length : Int)) = false := beq_eq_false_iff_ne.mpr c3
  have c3b1 : ((l0.length : Int) != (l1.length : Int)) = true := bne_iff_ne.mpr c3
  have c3b2 : (l0.length == l1.length) = false := by first | simpa using c3 | (simp at c3 ⊢; omega)
  obtain rfl := Option.some.inj H
  go_enter Tryz.func41, Tryz.ntmps41
  go_wp2
  repeat (go_quiet (fail); try go_wp2)
  go_ret
  exact ⟨by first | rfl | (simp; done) | (simp [*]; done), by repeat (first | exact aK.refl _ | apply aK.step)⟩
end Go.Proofs.YtmjlmloomkodpaaGreatDoor.PA
namespace Go.Proofs.YtmjlmloomkodpaaGreatDoor.PA
open Go.RowKit Go.Proofs.ae.aw Go.Proofs.ae.aJ Go.Proofs.ae.aN
attribute [local go_sem] bm bh bA bz a6 aZ bj bf
set_option linter.unusedVariables false
set_option linter.unusedSimpArgs false
theorem xf {P : Program} (t e : TypeId) (kh : IntKind) {i : TypeInfo} (ht : P.underlying t = some (.slice e)) (hi : P.info? e = some i) (A : Option Addr) (n c : Nat) (j : Int) (h0 : 0 ≤ j) (hm : j ≤ c) :
    ∀ W : World, (Instr.slice t (.slice A n c) none (some (.int kh j)) none).run P W = .ok (.slice A j.toNat c) W := by
  intro W
  have hel : P.elem t = e := by simp [Program.elem, ht]
  have hu : P.underlying t = some (.slice (P.elem t)) := by rw [hel]; exact ht
  have ha : (A.map fun x => x.add 0) = A := by cases A <;> simp [Addr.add]
  rw [run_slice_h W t A n c hu kh j h0 (by omega), hel]
  simp [sizeOf, typeInfo, hi, sliced, Result.andThen, ha]
set_option maxHeartbeats 8000000 in
set_option maxRecDepth 100000 in
theorem kO (k : Nat) (A0 : Option Addr) (c0 : Nat) (A1 : Option Addr) (c1 : Nat) (n : Nat) (full : List Int) (rm : Int) (w : World)
    (hrm : cq.f (n : Int) = some rm) (hn : wrap64 ((n : Int) + rm) = (full.length : Int))
    (hr0 : Kd.C (Kd.int .i64) w A0 full.length full) (hc0 : full.length ≤ c0) (hr1 : Kd.C (Kd.int .i64) w A1 full.length full) (hc1 : full.length ≤ c1)
    (he : bN.f k full full = some true) :
    Calls Tryz.prog 71 #[.slice A0 n c0, .slice A1 n c1] w fun e w' => e = .returned (.bool true) ∧ aK w w' := by
  have HR0 := aa.mk hr0
  have HR1 := aa.mk hr1
  have HC0 := aa.mk hc0
  have HC1 := aa.mk hc1
  have HE := aa.mk he
  have HRM := aa.mk hrm
  obtain ⟨i0, hi0, _, hsz0, _⟩ := info_parts iV
  obtain ⟨j, hj⟩ : ∃ j : Int, wrap64 ((n : Int) + rm) = j := ⟨_, rfl⟩
  have hjw : IntKind.i64.wrap ((n : Int) + rm) = j := (bd _).trans hj
  have hjl : j = (full.length : Int) := by rw [← hj, hn]
  have Ey := xf (P := Tryz.prog) 22 3 .i64 Tryz.underlying22 hi0 A0 n c0 j (by omega) (by omega)
  have Ex := xf (P := Tryz.prog) 22 3 .i64 Tryz.underlying22 hi0 A1 n c1 j (by omega) (by omega)
  have hjt : j.toNat = full.length := by rw [hjl, Int.toNat_natCast]
  rw [hjt] at Ey Ex
  clear hjt hjl hr0 hr1 hc0 hc1 he hrm hn hi0 hsz0
  have hnn : (n == n) = true := by simp
  go_enter Tryz.func71, Tryz.ntmps71
  go_wp2_with (first | (go_at_call 104; (with_reducible refine (cq.calls (n : Int) rm _ HRM.out).mono ?_); rintro e w' ⟨rfl, ⟨nd, rfl⟩⟩) | (go_at_call 41; (with_reducible refine (bN.calls k A0 c0 full A1 c1 full true _ ?side1 HC0.out ?side3 HC1.out HE.out).mono ?_); (case side1 => repeat (first | exact HR0.out | (with_reducible refine Kd.aX ?_ _) | (with_reducible refine Kd.aW ?_ _) | (with_reducible refine Kd.bn ?_))); (case side3 => repeat (first | exact HR1.out | (with_reducible refine Kd.aX ?_ _) | (with_reducible refine Kd.aW ?_ _) | (with_reducible refine Kd.bn ?_))); rintro e w' ⟨rfl, ⟨nd, rfl⟩⟩; (try first | exact ⟨rfl, _, World.drewN_drewN _ _ _⟩ | exact ⟨rfl, _, Eq.trans (World.drewN_drewN _ _ _) (congrArg (World.drewN _) (Nat.add_assoc _ _ _))⟩)))
  repeat (go_quiet ((go_at_call 41; (with_reducible refine (bN.calls k A0 c0 full A1 c1 full true _ ?side1 HC0.out ?side3 HC1.out HE.out).mono ?_); (case side1 => repeat (first | exact HR0.out | (with_reducible refine Kd.aX ?_ _) | (with_reducible refine Kd.aW ?_ _) | (with_reducible refine Kd.bn ?_))); (case side3 => repeat (first | exact HR1.out | (with_reducible refine Kd.aX ?_ _) | (with_reducible refine Kd.aW ?_ _) | (with_reducible refine Kd.bn ?_))); rintro e w' ⟨rfl, ⟨nd, rfl⟩⟩; (try first | exact ⟨rfl, _, World.drewN_drewN _ _ _⟩ | exact ⟨rfl, _, Eq.trans (World.drewN_drewN _ _ _) (congrArg (World.drewN _) (Nat.add_assoc _ _ _))⟩))))
  go_wp2
  go_ret
  exact ⟨by first | rfl | (simp; done) | (simp [*]; done), by repeat (first | exact aK.refl _ | apply aK.step)⟩
set_option maxHeartbeats 8000000 in
set_option maxRecDepth 100000 in
theorem mR (k : Nat) (a b : Int) (A2 : Option Addr) (c2 : Nat) (A3 : Option Addr) (c3 : Nat) (B2 : Option Addr) (d2 : Nat) (B3 : Option Addr) (d3 : Nat) (n2 n3 : Nat) (f2 f3 : List Int) (m2 m3 : Int) (w : World)
    (hm2 : cq.f (n2 : Int) = some m2) (hn2 : wrap64 ((n2 : Int) + m2) = (f2.length : Int)) (hm3 : cq.f (n3 : Int) = some m3) (hn3 : wrap64 ((n3 : Int) + m3) = (f3.length : Int))
    (ha2 : Kd.C (Kd.int .i64) w A2 f2.length f2) (hc2 : f2.length ≤ c2) (ha3 : Kd.C (Kd.int .i64) w A3 f3.length f3) (hc3 : f3.length ≤ c3)
    (hb2 : Kd.C (Kd.int .i64) w B2 f2.length f2) (hd2 : f2.length ≤ d2) (hb3 : Kd.C (Kd.int .i64) w B3 f3.length f3) (hd3 : f3.length ≤ d3)
    (he2 : bN.f k f2 f2 = some true) (he3 : bN.f k f3 f3 = some true) :
    Calls Tryz.prog 42 #[.agg #[.int .i64 a, .int .i64 b, .slice A2 n2 c2, .slice A3 n3 c3], .agg #[.int .i64 a, .int .i64 b, .slice B2 n2 d2, .slice B3 n3 d3]] w fun e w' => e = .returned (.bool true) ∧ Below w.heap.size w w' := by
  have X2 := fun (W : World) (h : Below w.heap.size w W) => kO k A2 c2 B2 d2 n2 f2 m2 W hm2 hn2 (Kd.ay ha2 h) hc2 (Kd.ay hb2 h) hd2 he2
  have X3 := fun (W : World) (h : Below w.heap.size w W) => kO k A3 c3 B3 d3 n3 f3 m3 W hm3 hn3 (Kd.ay ha3 h) hc3 (Kd.ay hb3 h) hd3 he3
  have HX2 := aa.mk X2
  have HX3 := aa.mk X3
  clear hm2 hn2 hm3 hn3 ha2 hc2 ha3 hc3 hb2 hd2 hb3 hd3 he2 he3 X2 X3
  have q1 : (a != a) = false := by simp
  have q2 : (b != b) = false := by simp
  go_enter Tryz.func42, Tryz.ntmps42
  go_wp2_with (first
    | (go_at_call 71; (with_reducible refine (HX2.out _ ?b2).mono ?_); (case b2 => repeat (first | exact Below.refl _ _ | apply ag | apply af | apply ah)); rintro e w' ⟨rfl, ⟨nd, rfl⟩⟩)
    | (go_at_call 71; (with_reducible refine (HX3.out _ ?b3).mono ?_); (case b3 => repeat (first | exact Below.refl _ _ | apply ag | apply af | apply ah)); rintro e w' ⟨rfl, ⟨nd, rfl⟩⟩))
  go_ret
  exact ⟨rfl, by repeat (first | exact Below.refl _ _ | apply ag | apply af | apply ah)⟩
set_option maxHeartbeats 8000000 in
set_option maxRecDepth 100000 in
theorem mQ (k : Nat) (a b : Int) (A2 : Option Addr) (c2 : Nat) (A3 : Option Addr) (c3 : Nat) (B2 : Option Addr) (d2 : Nat) (B3 : Option Addr) (d3 : Nat) (n2 n3 : Nat) (f2 f3 : List Int) (m2 m3 : Int) (mt : Int) (mv : Bool) (sq : Int) (w : World)
    (hm2 : cq.f (n2 : Int) = some m2) (hn2 : wrap64 ((n2 : Int) + m2) = (f2.length : Int)) (hm3 : cq.f (n3 : Int) = some m3) (hn3 : wrap64 ((n3 : Int) + m3) = (f3.length : Int))
    (ha2 : Kd.C (Kd.int .i64) w A2 f2.length f2) (hc2 : f2.length ≤ c2) (ha3 : Kd.C (Kd.int .i64) w A3 f3.length f3) (hc3 : f3.length ≤ c3)
    (hb2 : Kd.C (Kd.int .i64) w B2 f2.length f2) (hd2 : f2.length ≤ d2) (hb3 : Kd.C (Kd.int .i64) w B3 f3.length f3) (hd3 : f3.length ≤ d3)
    (he2 : bN.f k f2 f2 = some true) (he3 : bN.f k f3 f3 = some true) :
    Calls Tryz.prog 14 #[.agg #[.int .i64 a, .int .i64 b, .slice A2 n2 c2, .slice A3 n3 c3, .int .i64 mt, .bool mv, .int .i64 sq], .agg #[.int .i64 a, .int .i64 b, .slice B2 n2 d2, .slice B3 n3 d3, .int .i64 mt, .bool mv, .int .i64 sq]] w fun e w' => e = .returned (.bool true) ∧ Below w.heap.size w w' := by
  have X := fun (W : World) (h : Below w.heap.size w W) => mR k a b A2 c2 A3 c3 B2 d2 B3 d3 n2 n3 f2 f3 m2 m3 W hm2 hn2 hm3 hn3 (Kd.ay ha2 h) hc2 (Kd.ay ha3 h) hc3 (Kd.ay hb2 h) hd2 (Kd.ay hb3 h) hd3 he2 he3
  have HX := aa.mk X
  clear hm2 hn2 hm3 hn3 ha2 hc2 ha3 hc3 hb2 hd2 hb3 hd3 he2 he3 X
  have q1 : (mt != mt) = false := by simp
  have q2 : (mv != mv) = false := by simp
  have q3 : (sq != sq) = false := by simp
  go_enter Tryz.func14, Tryz.ntmps14
  go_wp2_with fail
  obtain ⟨W, hW⟩ : ∃ W, (w.alloc (.cells #[.int .i64 a, .int .i64 b, .slice A2 n2 c2, .slice A3 n3 c3, .int .i64 mt, .bool mv, .int .i64 sq] 32)).alloc (.cells #[.int .i64 a, .int .i64 b, .slice B2 n2 d2, .slice B3 n3 d3, .int .i64 mt, .bool mv, .int .i64 sq] 32) = W := ⟨_, rfl⟩
  have HBW := aa.mk (show Below w.heap.size w W by rw [← hW]; exact ag (ag (Below.refl _ _) _) _)
  have hbx : W.heap[w.heap.size]? = some (.cells #[.int .i64 a, .int .i64 b, .slice A2 n2 c2, .slice A3 n3 c3, .int .i64 mt, .bool mv, .int .i64 sq] 32 (0, 0)) := by
    rw [← hW, Below.heap_alloc _ _ _ (by simp)]
    exact heap_alloc_new _ _
  have hby : W.heap[w.heap.size + 1]? = some (.cells #[.int .i64 a, .int .i64 b, .slice B2 n2 d2, .slice B3 n3 d3, .int .i64 mt, .bool mv, .int .i64 sq] 32 (0, 0)) := by
    have h := heap_alloc_new (w.alloc (.cells #[.int .i64 a, .int .i64 b, .slice A2 n2 c2, .slice A3 n3 c3, .int .i64 mt, .bool mv, .int .i64 sq] 32)) (.cells #[.int .i64 a, .int .i64 b, .slice B2 n2 d2, .slice B3 n3 d3, .int .i64 mt, .bool mv, .int .i64 sq] 32)
    rw [World.size_alloc] at h
    rw [← hW]; exact h
  have HBX := aa.mk hbx
  have HBY := aa.mk hby
  clear hbx hby
  rw [hW]
  clear hW
  go_wp2_with (go_at_call 42; (with_reducible refine (HX.out W HBW.out).mono ?_); rintro e w1 ⟨rfl, hb⟩; have HK0 := aa.mk ((hb.block _ (a7 HBX.out)).trans HBX.out); have HK1 := aa.mk ((hb.block _ (a7 HBY.out)).trans HBY.out); have HB1 := aa.mk (HBW.out.trans (hb.mono HBW.out.size)); clear hb; have gx0 : w1.cell? ⟨w.heap.size, 0, none⟩ = some (.int .i64 a) := (ai HK0.out 0).trans rfl; have gx1 : w1.cell? ⟨w.heap.size, 1, none⟩ = some (.int .i64 b) := (ai HK0.out 1).trans rfl; have gx2 : w1.cell? ⟨w.heap.size, 2, none⟩ = some (.slice A2 n2 c2) := (ai HK0.out 2).trans rfl; have gx3 : w1.cell? ⟨w.heap.size, 3, none⟩ = some (.slice A3 n3 c3) := (ai HK0.out 3).trans rfl; have gx4 : w1.cell? ⟨w.heap.size, 4, none⟩ = some (.int .i64 mt) := (ai HK0.out 4).trans rfl; have gx5 : w1.cell? ⟨w.heap.size, 5, none⟩ = some (.bool mv) := (ai HK0.out 5).trans rfl; have gx6 : w1.cell? ⟨w.heap.size, 6, none⟩ = some (.int .i64 sq) := (ai HK0.out 6).trans rfl; have gy0 : w1.cell? ⟨w.heap.size + 1, 0, none⟩ = some (.int .i64 a) := (ai HK1.out 0).trans rfl; have gy1 : w1.cell? ⟨w.heap.size + 1, 1, none⟩ = some (.int .i64 b) := (ai HK1.out 1).trans rfl; have gy2 : w1.cell? ⟨w.heap.size + 1, 2, none⟩ = some (.slice B2 n2 d2) := (ai HK1.out 2).trans rfl; have gy3 : w1.cell? ⟨w.heap.size + 1, 3, none⟩ = some (.slice B3 n3 d3) := (ai HK1.out 3).trans rfl; have gy4 : w1.cell? ⟨w.heap.size + 1, 4, none⟩ = some (.int .i64 mt) := (ai HK1.out 4).trans rfl; have gy5 : w1.cell? ⟨w.heap.size + 1, 5, none⟩ = some (.bool mv) := (ai HK1.out 5).trans rfl; have gy6 : w1.cell? ⟨w.heap.size + 1, 6, none⟩ = some (.int .i64 sq) := (ai HK1.out 6).trans rfl)
  go_ret
  exact ⟨rfl, HB1.out⟩
end Go.Proofs.YtmjlmloomkodpaaGreatDoor.PA
namespace Go.Proofs.YtmjlmloomkodpaaGreatDoor.PA
open Go.RowKit Go.Proofs.ae.aw Go.Proofs.ae.aJ Go.Proofs.ae.aN
attribute [local go_sem] bm bh bA bz a6 aZ bj bf
set_option linter.unusedVariables false
set_option linter.unusedSimpArgs false
def dL.f (l0 : List Int) (a1 : Int) : Option (Int) := if (wrap64 (a1 - (l0.length : Int))) < 0 then (some (-1)) else (some (wrap64 (a1 - (l0.length : Int))))
set_option maxHeartbeats 8000000 in
set_option maxRecDepth 100000 in
theorem dL.calls (A0 : Option Addr) (c0 : Nat) (l0 : List Int) (a1 : Int) (r : Int) (w : World) (hr0 : Kd.C (Kd.int .i64) w A0 l0.length l0) (hc0 : l0.length ≤ c0) (h : dL.f l0 a1 = some r) :
  Calls Tryz.prog 62 #[.slice A0 l0.length c0, .int .i64 a1] w fun e w' => e = .returned (.int .i64 r) ∧ aK w w' := by
 have HR0 := aa.mk hr0
 have HC0 := aa.mk hc0
 clear hr0 hc0
 have H : (if (wrap64 (a1 - (l0.length : Int))) < 0 then (some (-1)) else (some (wrap64 (a1 - (l0.length : Int))))) = some r := h
 clear h
 by_cases c3 : (wrap64 (a1 - (l0.length : Int))) < 0
 ·rw [if_pos c3] at H
  have c3b0 : decide ((wrap64 (a1 - (l0.length : Int))) < 0) = true := decide_eq_true c3
  clear c3
  obtain rfl := Option.some.inj H
  go_enter Tryz.func62, Tryz.ntmps62
  go_wp2
  go_ret
  exact ⟨by first | rfl | (simp; done) | (simp [*]; done), by repeat (first | exact aK.refl _ | apply aK.step)⟩
 ·rw [if_neg c3] at H
  have c3b0 : decide ((wrap64 (a1 - (l0.length : Int))) < 0) = false := decide_eq_false c3
  clear c3
  obtain rfl := Option.some.inj H
  go_enter Tryz.func62, Tryz.ntmps62
  go_wp2
  go_ret
  exact ⟨by first | rfl | (simp; done) | (simp [*]; done), by repeat (first | exact aK.refl _ | apply aK.step)⟩
end Go.Proofs.YtmjlmloomkodpaaGreatDoor.PA
namespace Go.Proofs.YtmjlmloomkodpaaGreatDoor.PA
open Go.RowKit Go.Proofs.ae.aw Go.Proofs.ae.aJ Go.Proofs.ae.aN
attribute [local go_sem] bm bh bA bz a6 aZ bj bf
set_option linter.unusedVariables false
set_option linter.unusedSimpArgs false
def fe.f (a0_0 : Int) (a0_1 : Int) (l0_2 : List Int) (l0_3 : List Int) (a1 : Int) : Option (Int) := (dL.f l0_2 a1).bind fun t389 => (if t389 < 0 then (some (-1)) else ((dL.f l0_3 t389).bind fun t390 => (if t390 < 0 then (some (-1)) else (some t390))))
set_option maxHeartbeats 8000000 in
set_option maxRecDepth 100000 in
theorem fe.calls (a0_0 : Int) (a0_1 : Int) (A0_2 : Option Addr) (c0_2 : Nat) (l0_2 : List Int) (A0_3 : Option Addr) (c0_3 : Nat) (l0_3 : List Int) (a1 : Int) (r : Int) (w : World) (b0 : Kd.C (Kd.int .i64) w A0_2 l0_2.length l0_2) (bW : l0_2.length ≤ c0_2) (bZ : Kd.C (Kd.int .i64) w A0_3 l0_3.length l0_3) (bV : l0_3.length ≤ c0_3) (h : fe.f a0_0 a0_1 l0_2 l0_3 a1 = some r) :
  Calls Tryz.prog 33 #[.agg #[.int .i64 a0_0, .int .i64 a0_1, .slice A0_2 l0_2.length c0_2, .slice A0_3 l0_3.length c0_3], .int .i64 a1] w fun e w' => e = .returned (.int .i64 r) ∧ Below w.heap.size w w' := by
 have hu24 := Tryz.underlying24
 have cy := aa.mk b0
 have cD := aa.mk bW
 clear b0 bW
 have cG := aa.mk bZ
 have cJ := aa.mk bV
 clear bZ bV
 have HB := aa.mk (Below.refl w.heap.size w)
 have H : ((dL.f l0_2 a1).bind fun t389 => (if t389 < 0 then (some (-1)) else ((dL.f l0_3 t389).bind fun t390 => (if t390 < 0 then (some (-1)) else (some t390))))) = some r := h
 clear h
 replace H := Option.bind_eq_some_iff.mp H
 obtain ⟨t389, A30, H⟩ := H
 replace H : (if t389 < 0 then (some (-1)) else ((dL.f l0_3 t389).bind fun t390 => (if t390 < 0 then (some (-1)) else (some t390)))) = some r := H
 have A3 := aa.mk A30
 clear A30
 by_cases c4 : t389 < 0
 ·rw [if_pos c4] at H
  have c4b0 : decide (t389 < 0) = true := decide_eq_true c4
  clear c4
  obtain rfl := Option.some.inj H
  go_enter Tryz.func33, Tryz.ntmps33
  go_wp2_with (first | ((with_reducible refine aQ (N := 2) rfl ?_); refine aM ?hg (N := 2) ?hd (cs := #[.int .i64 a0_0, .int .i64 a0_1, .slice A0_2 l0_2.length c0_2, .slice A0_3 l0_3.length c0_3]) (t := 24) ?hr ?_; (case hd => rfl); (case hg => rfl); (case hr => first | (go_simp; done) | (go_simp; rfl)); intro gU hg w5 hbox hb; have n0_ := aa.mk (ar (by repeat (first | (with_reducible first | exact HB.out | apply ag | apply af | apply ah) | exact HB.out)) hb); have n1_ := aa.mk (hbox); have n2_ := aa.mk ((by rw [hg]; exact (aq (by repeat (first | (with_reducible first | exact HB.out | apply ag | apply af | apply ah) | exact HB.out))) : w.heap.size ≤ gU)); have n3_ := aa.mk ((by rw [hg]; exact (aq (by repeat (first | (with_reducible first | exact HB.out | apply ag | apply af | apply ah) | exact HB.out))) : w.heap.size ≤ gU)); clear HB; have HB := n0_; have fK := n1_; have C4 := n2_; have qk := n3_; clear n0_ n1_ n2_ n3_; clear hb hbox hg; have sE : w5.cell? ⟨gU, 0, none⟩ = some (.int .i64 a0_0) := (ai fK.out 0).trans rfl; have sD : w5.cell? ⟨gU, 1, none⟩ = some (.int .i64 a0_1) := (ai fK.out 1).trans rfl; have vf : w5.cell? ⟨gU, 2, none⟩ = some (.slice A0_2 l0_2.length c0_2) := (ai fK.out 2).trans rfl; have ve : w5.cell? ⟨gU, 3, none⟩ = some (.slice A0_3 l0_3.length c0_3) := (ai fK.out 3).trans rfl; have rX := aj fK.out 0; have rV := aj fK.out 1; have u9 := aj fK.out 2; have u7 := aj fK.out 3) | ((with_reducible refine az (f := 62) rfl ?_); refine bH (some 8) rfl rfl Tryz.func62 (by kernel_rfl) rfl #[.slice A0_2 l0_2.length c0_2, .int .i64 a1] rfl (by (try simp only [List.map_toArray, List.map_cons, List.map_nil]); first | done | rfl | (simp only [List.length_drop, List.length_take]; rfl)) ?_; (with_reducible refine (dL.calls _ _ l0_2 a1 t389 _ ?side1 ?side2 A3.out).mono ?_); (case side1 => repeat (first | exact (Kd.ay cy.out HB.out) | (with_reducible refine Kd.aX ?_ _) | (with_reducible refine Kd.aW ?_ _) | (with_reducible refine Kd.bn ?_))); (case side2 => exact cD.out); rintro e w' ⟨rfl, ⟨nd, rfl⟩⟩; refine ⟨_, rfl, ?_⟩))
  go_ret
  exact ⟨by first | rfl | (simp [av, au] <;> rfl) | (simp [*, av, au] <;> rfl), by repeat (first | (with_reducible first | exact HB.out | apply ag | apply af | apply ah | refine ak ?_ qk.out) | exact HB.out)⟩
 ·rw [if_neg c4] at H
  have c4b0 : decide (t389 < 0) = false := decide_eq_false c4
  clear c4
  replace H := Option.bind_eq_some_iff.mp H
  obtain ⟨t390, A70, H⟩ := H
  replace H : (if t390 < 0 then (some (-1)) else (some t390)) = some r := H
  have A7 := aa.mk A70
  clear A70
  by_cases c8 : t390 < 0
  ·rw [if_pos c8] at H
   have c8b0 : decide (t390 < 0) = true := decide_eq_true c8
   clear c8
   obtain rfl := Option.some.inj H
   go_enter Tryz.func33, Tryz.ntmps33
   go_wp2_with (first | ((with_reducible refine aQ (N := 2) rfl ?_); refine aM ?hg (N := 2) ?hd (cs := #[.int .i64 a0_0, .int .i64 a0_1, .slice A0_2 l0_2.length c0_2, .slice A0_3 l0_3.length c0_3]) (t := 24) ?hr ?_; (case hd => rfl); (case hg => rfl); (case hr => first | (go_simp; done) | (go_simp; rfl)); intro gU hg w9 hbox hb; have n0_ := aa.mk (ar (by repeat (first | (with_reducible first | exact HB.out | apply ag | apply af | apply ah) | exact HB.out)) hb); have n1_ := aa.mk (hbox); have n2_ := aa.mk ((by rw [hg]; exact (aq (by repeat (first | (with_reducible first | exact HB.out | apply ag | apply af | apply ah) | exact HB.out))) : w.heap.size ≤ gU)); have n3_ := aa.mk ((by rw [hg]; exact (aq (by repeat (first | (with_reducible first | exact HB.out | apply ag | apply af | apply ah) | exact HB.out))) : w.heap.size ≤ gU)); clear HB; have HB := n0_; have fK := n1_; have C4 := n2_; have qk := n3_; clear n0_ n1_ n2_ n3_; clear hb hbox hg; have jS : w9.cell? ⟨gU, 0, none⟩ = some (.int .i64 a0_0) := (ai fK.out 0).trans rfl; have jR : w9.cell? ⟨gU, 1, none⟩ = some (.int .i64 a0_1) := (ai fK.out 1).trans rfl; have jQ : w9.cell? ⟨gU, 2, none⟩ = some (.slice A0_2 l0_2.length c0_2) := (ai fK.out 2).trans rfl; have jP : w9.cell? ⟨gU, 3, none⟩ = some (.slice A0_3 l0_3.length c0_3) := (ai fK.out 3).trans rfl; have jO := aj fK.out 0; have jN := aj fK.out 1; have jM := aj fK.out 2; have jL := aj fK.out 3) | ((with_reducible refine az (f := 62) rfl ?_); refine bH (some 8) rfl rfl Tryz.func62 (by kernel_rfl) rfl #[.slice A0_2 l0_2.length c0_2, .int .i64 a1] rfl (by (try simp only [List.map_toArray, List.map_cons, List.map_nil]); first | done | rfl | (simp only [List.length_drop, List.length_take]; rfl)) ?_; (with_reducible refine (dL.calls _ _ l0_2 a1 t389 _ ?side1 ?side2 A3.out).mono ?_); (case side1 => repeat (first | exact (Kd.ay cy.out HB.out) | (with_reducible refine Kd.aX ?_ _) | (with_reducible refine Kd.aW ?_ _) | (with_reducible refine Kd.bn ?_))); (case side2 => exact cD.out); rintro e w' ⟨rfl, ⟨nd, rfl⟩⟩; refine ⟨_, rfl, ?_⟩) | ((with_reducible refine az (f := 62) rfl ?_); refine bH (some 14) rfl rfl Tryz.func62 (by kernel_rfl) rfl #[.slice A0_3 l0_3.length c0_3, .int .i64 t389] rfl (by (try simp only [List.map_toArray, List.map_cons, List.map_nil]); first | done | rfl | (simp only [List.length_drop, List.length_take]; rfl)) ?_; (with_reducible refine (dL.calls _ _ l0_3 t389 t390 _ ?side1 ?side2 A7.out).mono ?_); (case side1 => repeat (first | exact (Kd.ay cG.out (by repeat (first | (with_reducible first | exact HB.out | apply ag | apply af | apply ah | refine ak ?_ qk.out) | exact HB.out))) | (with_reducible refine Kd.aX ?_ _) | (with_reducible refine Kd.aW ?_ _) | (with_reducible refine Kd.bn ?_))); (case side2 => exact cJ.out); rintro e w' ⟨rfl, ⟨nd, rfl⟩⟩; refine ⟨_, rfl, ?_⟩))
   go_ret
   exact ⟨by first | rfl | (simp [av, au] <;> rfl) | (simp [*, av, au] <;> rfl), by repeat (first | (with_reducible first | exact HB.out | apply ag | apply af | apply ah | refine ak ?_ qk.out) | exact HB.out)⟩
  ·rw [if_neg c8] at H
   have c8b0 : decide (t390 < 0) = false := decide_eq_false c8
   clear c8
   obtain rfl := Option.some.inj H
   go_enter Tryz.func33, Tryz.ntmps33
   go_wp2_with (first | ((with_reducible refine aQ (N := 2) rfl ?_); refine aM ?hg (N := 2) ?hd (cs := #[.int .i64 a0_0, .int .i64 a0_1, .slice A0_2 l0_2.length c0_2, .slice A0_3 l0_3.length c0_3]) (t := 24) ?hr ?_; (case hd => rfl); (case hg => rfl); (case hr => first | (go_simp; done) | (go_simp; rfl)); intro gU hg w11 hbox hb; have n0_ := aa.mk (ar (by repeat (first | (with_reducible first | exact HB.out | apply ag | apply af | apply ah) | exact HB.out)) hb); have n1_ := aa.mk (hbox); have n2_ := aa.mk ((by rw [hg]; exact (aq (by repeat (first | (with_reducible first | exact HB.out | apply ag | apply af | apply ah) | exact HB.out))) : w.heap.size ≤ gU)); have n3_ := aa.mk ((by rw [hg]; exact (aq (by repeat (first | (with_reducible first | exact HB.out | apply ag | apply af | apply ah) | exact HB.out))) : w.heap.size ≤ gU)); clear HB; have HB := n0_; have fK := n1_; have C4 := n2_; have qk := n3_; clear n0_ n1_ n2_ n3_; clear hb hbox hg; have iM : w11.cell? ⟨gU, 0, none⟩ = some (.int .i64 a0_0) := (ai fK.out 0).trans rfl; have iL : w11.cell? ⟨gU, 1, none⟩ = some (.int .i64 a0_1) := (ai fK.out 1).trans rfl; have iK : w11.cell? ⟨gU, 2, none⟩ = some (.slice A0_2 l0_2.length c0_2) := (ai fK.out 2).trans rfl; have iJ : w11.cell? ⟨gU, 3, none⟩ = some (.slice A0_3 l0_3.length c0_3) := (ai fK.out 3).trans rfl; have iI := aj fK.out 0; have iH := aj fK.out 1; have iG := aj fK.out 2; have iE := aj fK.out 3) | ((with_reducible refine az (f := 62) rfl ?_); refine bH (some 8) rfl rfl Tryz.func62 (by kernel_rfl) rfl #[.slice A0_2 l0_2.length c0_2, .int .i64 a1] rfl (by (try simp only [List.map_toArray, List.map_cons, List.map_nil]); first | done | rfl | (simp only [List.length_drop, List.length_take]; rfl)) ?_; (with_reducible refine (dL.calls _ _ l0_2 a1 t389 _ ?side1 ?side2 A3.out).mono ?_); (case side1 => repeat (first | exact (Kd.ay cy.out HB.out) | (with_reducible refine Kd.aX ?_ _) | (with_reducible refine Kd.aW ?_ _) | (with_reducible refine Kd.bn ?_))); (case side2 => exact cD.out); rintro e w' ⟨rfl, ⟨nd, rfl⟩⟩; refine ⟨_, rfl, ?_⟩) | ((with_reducible refine az (f := 62) rfl ?_); refine bH (some 14) rfl rfl Tryz.func62 (by kernel_rfl) rfl #[.slice A0_3 l0_3.length c0_3, .int .i64 t389] rfl (by (try simp only [List.map_toArray, List.map_cons, List.map_nil]); first | done | rfl | (simp only [List.length_drop, List.length_take]; rfl)) ?_; (with_reducible refine (dL.calls _ _ l0_3 t389 t390 _ ?side1 ?side2 A7.out).mono ?_); (case side1 => repeat (first | exact (Kd.ay cG.out (by repeat (first | (with_reducible first | exact HB.out | apply ag | apply af | apply ah | refine ak ?_ qk.out) | exact HB.out))) | (with_reducible refine Kd.aX ?_ _) | (with_reducible refine Kd.aW ?_ _) | (with_reducible refine Kd.bn ?_))); (case side2 => exact cJ.out); rintro e w' ⟨rfl, ⟨nd, rfl⟩⟩; refine ⟨_, rfl, ?_⟩))
   go_ret
   exact ⟨by first | rfl | (simp [av, au] <;> rfl) | (simp [*, av, au] <;> rfl), by repeat (first | (with_reducible first | exact HB.out | apply ag | apply af | apply ah | refine ak ?_ qk.out) | exact HB.out)⟩
end Go.Proofs.YtmjlmloomkodpaaGreatDoor.PA
namespace Go.Proofs.YtmjlmloomkodpaaGreatDoor.PA
open Go.RowKit Go.Proofs.ae.aw Go.Proofs.ae.aJ Go.Proofs.ae.aN
attribute [local go_sem] bm bh bA bz a6 aZ bj bf
set_option linter.unusedVariables false
set_option linter.unusedSimpArgs false
def eG.f (a0_0 : Int) (a0_1 : Int) (l0_2 : List Int) (l0_3 : List Int) (a0_4 : Int) (a0_5 : Bool) (a0_6 : Int) (a1 : Int) : Option (Int) := (fe.f a0_0 a0_1 l0_2 l0_3 a1).bind fun t392 => (if t392 < 0 then (some (-1)) else (some t392))
set_option maxHeartbeats 8000000 in
set_option maxRecDepth 100000 in
theorem eG.calls (a0_0 : Int) (a0_1 : Int) (A0_2 : Option Addr) (c0_2 : Nat) (l0_2 : List Int) (A0_3 : Option Addr) (c0_3 : Nat) (l0_3 : List Int) (a0_4 : Int) (a0_5 : Bool) (a0_6 : Int) (a1 : Int) (r : Int) (w : World) (b0 : Kd.C (Kd.int .i64) w A0_2 l0_2.length l0_2) (bW : l0_2.length ≤ c0_2) (bZ : Kd.C (Kd.int .i64) w A0_3 l0_3.length l0_3) (bV : l0_3.length ≤ c0_3) (h : eG.f a0_0 a0_1 l0_2 l0_3 a0_4 a0_5 a0_6 a1 = some r) :
  Calls Tryz.prog 9 #[.agg #[.int .i64 a0_0, .int .i64 a0_1, .slice A0_2 l0_2.length c0_2, .slice A0_3 l0_3.length c0_3, .int .i64 a0_4, .bool a0_5, .int .i64 a0_6], .int .i64 a1] w fun e w' => e = .returned (.int .i64 r) ∧ Below w.heap.size w w' := by
 have hu26 := Tryz.underlying26
 have hu24 := Tryz.underlying24
 have cy := aa.mk b0
 have cD := aa.mk bW
 clear b0 bW
 have cG := aa.mk bZ
 have cJ := aa.mk bV
 clear bZ bV
 have HB := aa.mk (Below.refl w.heap.size w)
 have H : ((fe.f a0_0 a0_1 l0_2 l0_3 a1).bind fun t392 => (if t392 < 0 then (some (-1)) else (some t392))) = some r := h
 clear h
 replace H := Option.bind_eq_some_iff.mp H
 obtain ⟨t392, A30, H⟩ := H
 replace H : (if t392 < 0 then (some (-1)) else (some t392)) = some r := H
 have A3 := aa.mk A30
 clear A30
 by_cases c4 : t392 < 0
 ·rw [if_pos c4] at H
  have c4b0 : decide (t392 < 0) = true := decide_eq_true c4
  clear c4
  obtain rfl := Option.some.inj H
  go_enter Tryz.func9, Tryz.ntmps9
  go_wp2_with (first | ((with_reducible refine aQ (N := 2) rfl ?_); refine aM ?hg (N := 2) ?hd (cs := #[.int .i64 a0_0, .int .i64 a0_1, .slice A0_2 l0_2.length c0_2, .slice A0_3 l0_3.length c0_3, .int .i64 a0_4, .bool a0_5, .int .i64 a0_6]) (t := 26) ?hr ?_; (case hd => rfl); (case hg => rfl); (case hr => first | (go_simp; done) | (go_simp; rfl)); intro gB hg w5 hbox hb; have n0_ := aa.mk (ar (by repeat (first | (with_reducible first | exact HB.out | apply ag | apply af | apply ah) | exact HB.out)) hb); have n1_ := aa.mk (hbox); have n2_ := aa.mk ((by rw [hg]; exact (aq (by repeat (first | (with_reducible first | exact HB.out | apply ag | apply af | apply ah) | exact HB.out))) : w.heap.size ≤ gB)); have n3_ := aa.mk ((by rw [hg]; exact (aq (by repeat (first | (with_reducible first | exact HB.out | apply ag | apply af | apply ah) | exact HB.out))) : w.heap.size ≤ gB)); clear HB; have HB := n0_; have et := n1_; have FU := n2_; have uC := n3_; clear n0_ n1_ n2_ n3_; clear hb hbox hg; have sE : w5.cell? ⟨gB, 0, none⟩ = some (.int .i64 a0_0) := (ai et.out 0).trans rfl; have sD : w5.cell? ⟨gB, 1, none⟩ = some (.int .i64 a0_1) := (ai et.out 1).trans rfl; have vf : w5.cell? ⟨gB, 2, none⟩ = some (.slice A0_2 l0_2.length c0_2) := (ai et.out 2).trans rfl; have ve : w5.cell? ⟨gB, 3, none⟩ = some (.slice A0_3 l0_3.length c0_3) := (ai et.out 3).trans rfl; have Dv : w5.cell? ⟨gB, 4, none⟩ = some (.int .i64 a0_4) := (ai et.out 4).trans rfl; have Du : w5.cell? ⟨gB, 5, none⟩ = some (.bool a0_5) := (ai et.out 5).trans rfl; have Dt : w5.cell? ⟨gB, 6, none⟩ = some (.int .i64 a0_6) := (ai et.out 6).trans rfl; have rX := aj et.out 0; have rV := aj et.out 1; have u9 := aj et.out 2; have u7 := aj et.out 3; have Dn := aj et.out 4; have Dm := aj et.out 5; have Dl := aj et.out 6) | ((with_reducible refine az (f := 33) rfl ?_); refine bH (some 8) rfl rfl Tryz.func33 (by kernel_rfl) rfl #[.agg #[.int .i64 a0_0, .int .i64 a0_1, .slice A0_2 l0_2.length c0_2, .slice A0_3 l0_3.length c0_3], .int .i64 a1] rfl (by (try simp only [List.map_toArray, List.map_cons, List.map_nil]); first | done | rfl | (simp only [List.length_drop, List.length_take]; rfl)) ?_; (with_reducible refine (fe.calls a0_0 a0_1 _ _ l0_2 _ _ l0_3 a1 t392 _ ?side1 ?side2 ?side3 ?side4 A3.out).mono ?_); (case side1 => repeat (first | exact (Kd.ay cy.out HB.out) | (with_reducible refine Kd.aX ?_ _) | (with_reducible refine Kd.aW ?_ _) | (with_reducible refine Kd.bn ?_))); (case side2 => exact cD.out); (case side3 => repeat (first | exact (Kd.ay cG.out HB.out) | (with_reducible refine Kd.aX ?_ _) | (with_reducible refine Kd.aW ?_ _) | (with_reducible refine Kd.bn ?_))); (case side4 => exact cJ.out); rintro e w7 ⟨rfl, hb⟩; refine ⟨_, rfl, ?_⟩; have n0_ := aa.mk (aD (g := gB) (o := .cells #[.int .i64 a0_0, .int .i64 a0_1, .slice A0_2 l0_2.length c0_2, .slice A0_3 l0_3.length c0_3, .int .i64 a0_4, .bool a0_5, .int .i64 a0_6] 26 (0, 0)) (by (with_reducible repeat (first | refine al ?_ _ | refine ao ?_ | refine an ?_ _)); exact et.out) hb); have n1_ := aa.mk (ar (by repeat (first | (with_reducible first | exact HB.out | apply ag | apply af | apply ah | refine ak ?_ uC.out) | exact HB.out)) hb); clear et; clear HB; have et := n0_; have HB := n1_; clear n0_ n1_; (try clear hb); (try clear hb2); (try clear hk); (try clear hi)))
  go_ret
  exact ⟨by first | rfl | (simp [av, au] <;> rfl) | (simp [*, av, au] <;> rfl), by repeat (first | (with_reducible first | exact HB.out | apply ag | apply af | apply ah | refine ak ?_ uC.out) | exact HB.out)⟩
 ·rw [if_neg c4] at H
  have c4b0 : decide (t392 < 0) = false := decide_eq_false c4
  clear c4
  obtain rfl := Option.some.inj H
  go_enter Tryz.func9, Tryz.ntmps9
  go_wp2_with (first | ((with_reducible refine aQ (N := 2) rfl ?_); refine aM ?hg (N := 2) ?hd (cs := #[.int .i64 a0_0, .int .i64 a0_1, .slice A0_2 l0_2.length c0_2, .slice A0_3 l0_3.length c0_3, .int .i64 a0_4, .bool a0_5, .int .i64 a0_6]) (t := 26) ?hr ?_; (case hd => rfl); (case hg => rfl); (case hr => first | (go_simp; done) | (go_simp; rfl)); intro gB hg w8 hbox hb; have n0_ := aa.mk (ar (by repeat (first | (with_reducible first | exact HB.out | apply ag | apply af | apply ah) | exact HB.out)) hb); have n1_ := aa.mk (hbox); have n2_ := aa.mk ((by rw [hg]; exact (aq (by repeat (first | (with_reducible first | exact HB.out | apply ag | apply af | apply ah) | exact HB.out))) : w.heap.size ≤ gB)); have n3_ := aa.mk ((by rw [hg]; exact (aq (by repeat (first | (with_reducible first | exact HB.out | apply ag | apply af | apply ah) | exact HB.out))) : w.heap.size ≤ gB)); clear HB; have HB := n0_; have et := n1_; have FU := n2_; have uC := n3_; clear n0_ n1_ n2_ n3_; clear hb hbox hg; have gO : w8.cell? ⟨gB, 0, none⟩ = some (.int .i64 a0_0) := (ai et.out 0).trans rfl; have gN : w8.cell? ⟨gB, 1, none⟩ = some (.int .i64 a0_1) := (ai et.out 1).trans rfl; have iC : w8.cell? ⟨gB, 2, none⟩ = some (.slice A0_2 l0_2.length c0_2) := (ai et.out 2).trans rfl; have iB : w8.cell? ⟨gB, 3, none⟩ = some (.slice A0_3 l0_3.length c0_3) := (ai et.out 3).trans rfl; have sC : w8.cell? ⟨gB, 4, none⟩ = some (.int .i64 a0_4) := (ai et.out 4).trans rfl; have sB : w8.cell? ⟨gB, 5, none⟩ = some (.bool a0_5) := (ai et.out 5).trans rfl; have va : w8.cell? ⟨gB, 6, none⟩ = some (.int .i64 a0_6) := (ai et.out 6).trans rfl; have gM := aj et.out 0; have gL := aj et.out 1; have iA := aj et.out 2; have iz := aj et.out 3; have rT := aj et.out 4; have rS := aj et.out 5; have u2 := aj et.out 6) | ((with_reducible refine az (f := 33) rfl ?_); refine bH (some 8) rfl rfl Tryz.func33 (by kernel_rfl) rfl #[.agg #[.int .i64 a0_0, .int .i64 a0_1, .slice A0_2 l0_2.length c0_2, .slice A0_3 l0_3.length c0_3], .int .i64 a1] rfl (by (try simp only [List.map_toArray, List.map_cons, List.map_nil]); first | done | rfl | (simp only [List.length_drop, List.length_take]; rfl)) ?_; (with_reducible refine (fe.calls a0_0 a0_1 _ _ l0_2 _ _ l0_3 a1 t392 _ ?side1 ?side2 ?side3 ?side4 A3.out).mono ?_); (case side1 => repeat (first | exact (Kd.ay cy.out HB.out) | (with_reducible refine Kd.aX ?_ _) | (with_reducible refine Kd.aW ?_ _) | (with_reducible refine Kd.bn ?_))); (case side2 => exact cD.out); (case side3 => repeat (first | exact (Kd.ay cG.out HB.out) | (with_reducible refine Kd.aX ?_ _) | (with_reducible refine Kd.aW ?_ _) | (with_reducible refine Kd.bn ?_))); (case side4 => exact cJ.out); rintro e w10 ⟨rfl, hb⟩; refine ⟨_, rfl, ?_⟩; have n0_ := aa.mk (aD (g := gB) (o := .cells #[.int .i64 a0_0, .int .i64 a0_1, .slice A0_2 l0_2.length c0_2, .slice A0_3 l0_3.length c0_3, .int .i64 a0_4, .bool a0_5, .int .i64 a0_6] 26 (0, 0)) (by (with_reducible repeat (first | refine al ?_ _ | refine ao ?_ | refine an ?_ _)); exact et.out) hb); have n1_ := aa.mk (ar (by repeat (first | (with_reducible first | exact HB.out | apply ag | apply af | apply ah | refine ak ?_ uC.out) | exact HB.out)) hb); clear et; clear HB; have et := n0_; have HB := n1_; clear n0_ n1_; (try clear hb); (try clear hb2); (try clear hk); (try clear hi)))
  go_ret
  exact ⟨by first | rfl | (simp [av, au] <;> rfl) | (simp [*, av, au] <;> rfl), by repeat (first | (with_reducible first | exact HB.out | apply ag | apply af | apply ah | refine ak ?_ uC.out) | exact HB.out)⟩
end Go.Proofs.YtmjlmloomkodpaaGreatDoor.PA
namespace Go.Proofs.YtmjlmloomkodpaaGreatDoor.PA
open Go.RowKit Go.Proofs.ae.aw Go.Proofs.ae.aJ Go.Proofs.ae.aN
attribute [local go_sem] bm bh bA bz a6 aZ bj bf
set_option linter.unusedVariables false
set_option linter.unusedSimpArgs false
def eH.f (k : Nat) (a0_0 : Int) (a0_1 : Int) (l0_2 : List Int) (l0_3 : List Int) (a1_0 : Int) (a1_1 : Int) (l1_2 : List Int) (l1_3 : List Int) : Option (Bool) := if a0_0 = a1_0 then (if a0_1 = a1_1 then ((bN.f k l0_2 l1_2).bind fun t397 => (if t397 = true then ((bN.f k l0_3 l1_3).bind fun t398 => (if t398 = true then (some true) else (some false))) else (some false))) else (some false)) else (some false)
set_option maxHeartbeats 8000000 in
set_option maxRecDepth 100000 in
theorem eH.calls (k : Nat) (a0_0 : Int) (a0_1 : Int) (A0_2 : Option Addr) (c0_2 : Nat) (l0_2 : List Int) (A0_3 : Option Addr) (c0_3 : Nat) (l0_3 : List Int) (a1_0 : Int) (a1_1 : Int) (A1_2 : Option Addr) (c1_2 : Nat) (l1_2 : List Int) (A1_3 : Option Addr) (c1_3 : Nat) (l1_3 : List Int) (r : Bool) (w : World) (b0 : Kd.C (Kd.int .i64) w A0_2 l0_2.length l0_2) (bW : l0_2.length ≤ c0_2) (bZ : Kd.C (Kd.int .i64) w A0_3 l0_3.length l0_3) (bV : l0_3.length ≤ c0_3) (ue : Kd.C (Kd.int .i64) w A1_2 l1_2.length l1_2) (wX : l1_2.length ≤ c1_2) (ud : Kd.C (Kd.int .i64) w A1_3 l1_3.length l1_3) (wW : l1_3.length ≤ c1_3) (h : eH.f k a0_0 a0_1 l0_2 l0_3 a1_0 a1_1 l1_2 l1_3 = some r) :
  Calls Tryz.prog 13 #[.agg #[.int .i64 a0_0, .int .i64 a0_1, .slice A0_2 l0_2.length c0_2, .slice A0_3 l0_3.length c0_3], .agg #[.int .i64 a1_0, .int .i64 a1_1, .slice A1_2 l1_2.length c1_2, .slice A1_3 l1_3.length c1_3]] w fun e w' => e = .returned (.bool r) ∧ Below w.heap.size w w' := by
 have hu28 := Tryz.underlying28
 have cy := aa.mk b0
 have cD := aa.mk bW
 clear b0 bW
 have cG := aa.mk bZ
 have cJ := aa.mk bV
 clear bZ bV
 have zM := aa.mk ue
 have zR := aa.mk wX
 clear ue wX
 have CO := aa.mk ud
 have CZ := aa.mk wW
 clear ud wW
 have HB := aa.mk (Below.refl w.heap.size w)
 have H : (if a0_0 = a1_0 then (if a0_1 = a1_1 then ((bN.f k l0_2 l1_2).bind fun t397 => (if t397 = true then ((bN.f k l0_3 l1_3).bind fun t398 => (if t398 = true then (some true) else (some false))) else (some false))) else (some false)) else (some false)) = some r := h
 clear h
 by_cases c3 : a0_0 = a1_0
 ·rw [if_pos c3] at H
  have c3b0 : (a0_0 == a1_0) = true := beq_iff_eq.mpr c3
  have c3b1 : (a0_0 != a1_0) = false := bne_eq_false_iff_eq.mpr c3
  clear c3
  by_cases c4 : a0_1 = a1_1
  ·rw [if_pos c4] at H
   have c4b0 : (a0_1 == a1_1) = true := beq_iff_eq.mpr c4
   have c4b1 : (a0_1 != a1_1) = false := bne_eq_false_iff_eq.mpr c4
   clear c4
   replace H := Option.bind_eq_some_iff.mp H
   obtain ⟨t397, A50, H⟩ := H
   replace H : (if t397 = true then ((bN.f k l0_3 l1_3).bind fun t398 => (if t398 = true then (some true) else (some false))) else (some false)) = some r := H
   have A5 := aa.mk A50
   clear A50
   by_cases c6 : t397 = true
   ·subst c6
    have H1 : ((bN.f k l0_3 l1_3).bind fun t398 => (if t398 = true then (some true) else (some false))) = some r := by rw [if_pos rfl] at H; exact H
    clear H
    have H := H1
    clear H1
    replace H := Option.bind_eq_some_iff.mp H
    obtain ⟨t398, A70, H⟩ := H
    replace H : (if t398 = true then (some true) else (some false)) = some r := H
    have A7 := aa.mk A70
    clear A70
    by_cases c8 : t398 = true
    ·subst c8
     have H1 : (some true) = some r := by rw [if_pos rfl] at H; exact H
     clear H
     have H := H1
     clear H1
     obtain rfl := Option.some.inj H
     go_enter Tryz.func13, Tryz.ntmps13
     go_wp2_with (first | ((with_reducible refine aQ (N := 2) rfl ?_); refine aM ?hg (N := 2) ?hd (cs := #[.int .i64 a0_0, .int .i64 a0_1, .slice A0_2 l0_2.length c0_2, .slice A0_3 l0_3.length c0_3]) (t := 28) ?hr ?_; (case hd => rfl); (case hg => rfl); (case hr => first | (go_simp; done) | (go_simp; rfl)); intro cY hg w9 hbox hb; have n0_ := aa.mk (ar (by repeat (first | (with_reducible first | exact HB.out | apply ag | apply af | apply ah) | exact HB.out)) hb); have n1_ := aa.mk (hbox); have n2_ := aa.mk ((by rw [hg]; exact (aq (by repeat (first | (with_reducible first | exact HB.out | apply ag | apply af | apply ah) | exact HB.out))) : w.heap.size ≤ cY)); have n3_ := aa.mk ((by rw [hg]; exact (aq (by repeat (first | (with_reducible first | exact HB.out | apply ag | apply af | apply ah) | exact HB.out))) : w.heap.size ≤ cY)); clear HB; have HB := n0_; have cI := n1_; have xw := n2_; have fk := n3_; clear n0_ n1_ n2_ n3_; clear hb hbox hg) | ((with_reducible refine aQ (N := 3) rfl ?_); refine aM ?hg (N := 3) ?hd (cs := #[.int .i64 a1_0, .int .i64 a1_1, .slice A1_2 l1_2.length c1_2, .slice A1_3 l1_3.length c1_3]) (t := 28) ?hr ?_; (case hd => rfl); (case hg => rfl); (case hr => first | (go_simp; done) | (go_simp; rfl)); intro dC hg w10 hbox hb; have n0_ := aa.mk (aD (g := cY) (o := .cells #[.int .i64 a0_0, .int .i64 a0_1, .slice A0_2 l0_2.length c0_2, .slice A0_3 l0_3.length c0_3] 28 (0, 0)) (by (with_reducible repeat (first | refine al ?_ _ | refine ao ?_ | refine an ?_ _)); exact cI.out) hb); have n1_ := aa.mk (ar (by repeat (first | (with_reducible first | exact HB.out | apply ag | apply af | apply ah | refine ak ?_ fk.out) | exact HB.out)) hb); have n2_ := aa.mk (hbox); have n3_ := aa.mk ((by rw [hg]; exact (aq (by repeat (first | (with_reducible first | exact HB.out | apply ag | apply af | apply ah | refine ak ?_ fk.out) | exact HB.out))) : w.heap.size ≤ dC)); have n4_ := aa.mk ((by rw [hg]; exact (aq (by repeat (first | (with_reducible first | exact HB.out | apply ag | apply af | apply ah | refine ak ?_ fk.out) | exact HB.out))) : w.heap.size ≤ dC)); have n5_ := aa.mk ((by rw [hg]; exact Nat.ne_of_lt (a7 (g := cY) (o := .cells #[.int .i64 a0_0, .int .i64 a0_1, .slice A0_2 l0_2.length c0_2, .slice A0_3 l0_3.length c0_3] 28 (0, 0)) (by (with_reducible repeat (first | refine al ?_ _ | refine ao ?_ | refine an ?_ _)); exact cI.out)) : cY ≠ dC)); have n6_ := aa.mk ((by rw [hg]; exact Nat.ne_of_gt (a7 (g := cY) (o := .cells #[.int .i64 a0_0, .int .i64 a0_1, .slice A0_2 l0_2.length c0_2, .slice A0_3 l0_3.length c0_3] 28 (0, 0)) (by (with_reducible repeat (first | refine al ?_ _ | refine ao ?_ | refine an ?_ _)); exact cI.out)) : dC ≠ cY)); clear cI; clear HB; have cI := n0_; have HB := n1_; have dE := n2_; have xv := n3_; have ko := n4_; have gx := n5_; have gv := n6_; clear n0_ n1_ n2_ n3_ n4_ n5_ n6_; clear hb hbox hg; have vW := gx.out; have vV := gv.out; have iM : w10.cell? ⟨cY, 0, none⟩ = some (.int .i64 a0_0) := (ai cI.out 0).trans rfl; have iL : w10.cell? ⟨cY, 1, none⟩ = some (.int .i64 a0_1) := (ai cI.out 1).trans rfl; have iK : w10.cell? ⟨cY, 2, none⟩ = some (.slice A0_2 l0_2.length c0_2) := (ai cI.out 2).trans rfl; have iJ : w10.cell? ⟨cY, 3, none⟩ = some (.slice A0_3 l0_3.length c0_3) := (ai cI.out 3).trans rfl; have iI := aj cI.out 0; have iH := aj cI.out 1; have iG := aj cI.out 2; have iE := aj cI.out 3; have pa : w10.cell? ⟨dC, 0, none⟩ = some (.int .i64 a1_0) := (ai dE.out 0).trans rfl; have o9 : w10.cell? ⟨dC, 1, none⟩ = some (.int .i64 a1_1) := (ai dE.out 1).trans rfl; have sV : w10.cell? ⟨dC, 2, none⟩ = some (.slice A1_2 l1_2.length c1_2) := (ai dE.out 2).trans rfl; have sU : w10.cell? ⟨dC, 3, none⟩ = some (.slice A1_3 l1_3.length c1_3) := (ai dE.out 3).trans rfl; have o2 := aj dE.out 0; have oZ := aj dE.out 1; have su := aj dE.out 2; have so := aj dE.out 3) | ((with_reducible refine az (f := 41) rfl ?_); refine bH (some 19) rfl rfl Tryz.func41 (by kernel_rfl) rfl #[.slice A0_2 l0_2.length c0_2, .slice A1_2 l1_2.length c1_2] rfl (by (try simp only [List.map_toArray, List.map_cons, List.map_nil]); first | done | rfl | (simp only [List.length_drop, List.length_take]; rfl)) ?_; (with_reducible refine (bN.calls k _ _ l0_2 _ _ l1_2 true _ ?side1 ?side2 ?side3 ?side4 A5.out).mono ?_); (case side1 => repeat (first | exact (Kd.ay cy.out HB.out) | (with_reducible refine Kd.aX ?_ _) | (with_reducible refine Kd.aW ?_ _) | (with_reducible refine Kd.bn ?_))); (case side2 => exact cD.out); (case side3 => repeat (first | exact (Kd.ay zM.out HB.out) | (with_reducible refine Kd.aX ?_ _) | (with_reducible refine Kd.aW ?_ _) | (with_reducible refine Kd.bn ?_))); (case side4 => exact zR.out); rintro e w' ⟨rfl, ⟨nd, rfl⟩⟩; refine ⟨_, rfl, ?_⟩) | ((with_reducible refine az (f := 41) rfl ?_); refine bH (some 25) rfl rfl Tryz.func41 (by kernel_rfl) rfl #[.slice A0_3 l0_3.length c0_3, .slice A1_3 l1_3.length c1_3] rfl (by (try simp only [List.map_toArray, List.map_cons, List.map_nil]); first | done | rfl | (simp only [List.length_drop, List.length_take]; rfl)) ?_; (with_reducible refine (bN.calls k _ _ l0_3 _ _ l1_3 true _ ?side1 ?side2 ?side3 ?side4 A7.out).mono ?_); (case side1 => repeat (first | exact (Kd.ay cG.out (by repeat (first | (with_reducible first | exact HB.out | apply ag | apply af | apply ah | refine ak ?_ fk.out | refine ak ?_ ko.out) | exact HB.out))) | (with_reducible refine Kd.aX ?_ _) | (with_reducible refine Kd.aW ?_ _) | (with_reducible refine Kd.bn ?_))); (case side2 => exact cJ.out); (case side3 => repeat (first | exact (Kd.ay CO.out (by repeat (first | (with_reducible first | exact HB.out | apply ag | apply af | apply ah | refine ak ?_ fk.out | refine ak ?_ ko.out) | exact HB.out))) | (with_reducible refine Kd.aX ?_ _) | (with_reducible refine Kd.aW ?_ _) | (with_reducible refine Kd.bn ?_))); (case side4 => exact CZ.out); rintro e w' ⟨rfl, ⟨nd, rfl⟩⟩; refine ⟨_, rfl, ?_⟩))
     go_ret
     exact ⟨by first | rfl | (simp [av, au] <;> rfl) | (simp [*, av, au] <;> rfl), by repeat (first | (with_reducible first | exact HB.out | apply ag | apply af | apply ah | refine ak ?_ fk.out | refine ak ?_ ko.out) | exact HB.out)⟩
    ·replace c8 := Bool.eq_false_iff.mpr c8
     subst c8
     have H1 : (some false) = some r := by rw [if_neg (show ¬ (false = true) by decide)] at H; exact H
     clear H
     have H := H1
     clear H1
     obtain rfl := Option.some.inj H
     go_enter Tryz.func13, Tryz.ntmps13
     go_wp2_with (first | ((with_reducible refine aQ (N := 2) rfl ?_); refine aM ?hg (N := 2) ?hd (cs := #[.int .i64 a0_0, .int .i64 a0_1, .slice A0_2 l0_2.length c0_2, .slice A0_3 l0_3.length c0_3]) (t := 28) ?hr ?_; (case hd => rfl); (case hg => rfl); (case hr => first | (go_simp; done) | (go_simp; rfl)); intro cY hg w14 hbox hb; have n0_ := aa.mk (ar (by repeat (first | (with_reducible first | exact HB.out | apply ag | apply af | apply ah) | exact HB.out)) hb); have n1_ := aa.mk (hbox); have n2_ := aa.mk ((by rw [hg]; exact (aq (by repeat (first | (with_reducible first | exact HB.out | apply ag | apply af | apply ah) | exact HB.out))) : w.heap.size ≤ cY)); have n3_ := aa.mk ((by rw [hg]; exact (aq (by repeat (first | (with_reducible first | exact HB.out | apply ag | apply af | apply ah) | exact HB.out))) : w.heap.size ≤ cY)); clear HB; have HB := n0_; have cI := n1_; have xw := n2_; have fk := n3_; clear n0_ n1_ n2_ n3_; clear hb hbox hg) | ((with_reducible refine aQ (N := 3) rfl ?_); refine aM ?hg (N := 3) ?hd (cs := #[.int .i64 a1_0, .int .i64 a1_1, .slice A1_2 l1_2.length c1_2, .slice A1_3 l1_3.length c1_3]) (t := 28) ?hr ?_; (case hd => rfl); (case hg => rfl); (case hr => first | (go_simp; done) | (go_simp; rfl)); intro dC hg w15 hbox hb; have n0_ := aa.mk (aD (g := cY) (o := .cells #[.int .i64 a0_0, .int .i64 a0_1, .slice A0_2 l0_2.length c0_2, .slice A0_3 l0_3.length c0_3] 28 (0, 0)) (by (with_reducible repeat (first | refine al ?_ _ | refine ao ?_ | refine an ?_ _)); exact cI.out) hb); have n1_ := aa.mk (ar (by repeat (first | (with_reducible first | exact HB.out | apply ag | apply af | apply ah | refine ak ?_ fk.out) | exact HB.out)) hb); have n2_ := aa.mk (hbox); have n3_ := aa.mk ((by rw [hg]; exact (aq (by repeat (first | (with_reducible first | exact HB.out | apply ag | apply af | apply ah | refine ak ?_ fk.out) | exact HB.out))) : w.heap.size ≤ dC)); have n4_ := aa.mk ((by rw [hg]; exact (aq (by repeat (first | (with_reducible first | exact HB.out | apply ag | apply af | apply ah | refine ak ?_ fk.out) | exact HB.out))) : w.heap.size ≤ dC)); have n5_ := aa.mk ((by rw [hg]; exact Nat.ne_of_lt (a7 (g := cY) (o := .cells #[.int .i64 a0_0, .int .i64 a0_1, .slice A0_2 l0_2.length c0_2, .slice A0_3 l0_3.length c0_3] 28 (0, 0)) (by (with_reducible repeat (first | refine al ?_ _ | refine ao ?_ | refine an ?_ _)); exact cI.out)) : cY ≠ dC)); have n6_ := aa.mk ((by rw [hg]; exact Nat.ne_of_gt (a7 (g := cY) (o := .cells #[.int .i64 a0_0, .int .i64 a0_1, .slice A0_2 l0_2.length c0_2, .slice A0_3 l0_3.length c0_3] 28 (0, 0)) (by (with_reducible repeat (first | refine al ?_ _ | refine ao ?_ | refine an ?_ _)); exact cI.out)) : dC ≠ cY)); clear cI; clear HB; have cI := n0_; have HB := n1_; have dE := n2_; have xv := n3_; have ko := n4_; have gx := n5_; have gv := n6_; clear n0_ n1_ n2_ n3_ n4_ n5_ n6_; clear hb hbox hg; have hnb16 := gx.out; have hnc16 := gv.out; have wR : w15.cell? ⟨cY, 0, none⟩ = some (.int .i64 a0_0) := (ai cI.out 0).trans rfl; have wQ : w15.cell? ⟨cY, 1, none⟩ = some (.int .i64 a0_1) := (ai cI.out 1).trans rfl; have BR : w15.cell? ⟨cY, 2, none⟩ = some (.slice A0_2 l0_2.length c0_2) := (ai cI.out 2).trans rfl; have BQ : w15.cell? ⟨cY, 3, none⟩ = some (.slice A0_3 l0_3.length c0_3) := (ai cI.out 3).trans rfl; have wx := aj cI.out 0; have wv := aj cI.out 1; have Bv := aj cI.out 2; have Bu := aj cI.out 3; have o8 : w15.cell? ⟨dC, 0, none⟩ = some (.int .i64 a1_0) := (ai dE.out 0).trans rfl; have o7 : w15.cell? ⟨dC, 1, none⟩ = some (.int .i64 a1_1) := (ai dE.out 1).trans rfl; have sO : w15.cell? ⟨dC, 2, none⟩ = some (.slice A1_2 l1_2.length c1_2) := (ai dE.out 2).trans rfl; have sN : w15.cell? ⟨dC, 3, none⟩ = some (.slice A1_3 l1_3.length c1_3) := (ai dE.out 3).trans rfl; have oY := aj dE.out 0; have oX := aj dE.out 1; have sh := aj dE.out 2; have sf := aj dE.out 3) | ((with_reducible refine az (f := 41) rfl ?_); refine bH (some 19) rfl rfl Tryz.func41 (by kernel_rfl) rfl #[.slice A0_2 l0_2.length c0_2, .slice A1_2 l1_2.length c1_2] rfl (by (try simp only [List.map_toArray, List.map_cons, List.map_nil]); first | done | rfl | (simp only [List.length_drop, List.length_take]; rfl)) ?_; (with_reducible refine (bN.calls k _ _ l0_2 _ _ l1_2 true _ ?side1 ?side2 ?side3 ?side4 A5.out).mono ?_); (case side1 => repeat (first | exact (Kd.ay cy.out HB.out) | (with_reducible refine Kd.aX ?_ _) | (with_reducible refine Kd.aW ?_ _) | (with_reducible refine Kd.bn ?_))); (case side2 => exact cD.out); (case side3 => repeat (first | exact (Kd.ay zM.out HB.out) | (with_reducible refine Kd.aX ?_ _) | (with_reducible refine Kd.aW ?_ _) | (with_reducible refine Kd.bn ?_))); (case side4 => exact zR.out); rintro e w' ⟨rfl, ⟨nd, rfl⟩⟩; refine ⟨_, rfl, ?_⟩) | ((with_reducible refine az (f := 41) rfl ?_); refine bH (some 25) rfl rfl Tryz.func41 (by kernel_rfl) rfl #[.slice A0_3 l0_3.length c0_3, .slice A1_3 l1_3.length c1_3] rfl (by (try simp only [List.map_toArray, List.map_cons, List.map_nil]); first | done | rfl | (simp only [List.length_drop, List.length_take]; rfl)) ?_; (with_reducible refine (bN.calls k _ _ l0_3 _ _ l1_3 false _ ?side1 ?side2 ?side3 ?side4 A7.out).mono ?_); (case side1 => repeat (first | exact (Kd.ay cG.out (by repeat (first | (with_reducible first | exact HB.out | apply ag | apply af | apply ah | refine ak ?_ fk.out | refine ak ?_ ko.out) | exact HB.out))) | (with_reducible refine Kd.aX ?_ _) | (with_reducible refine Kd.aW ?_ _) | (with_reducible refine Kd.bn ?_))); (case side2 => exact cJ.out); (case side3 => repeat (first | exact (Kd.ay CO.out (by repeat (first | (with_reducible first | exact HB.out | apply ag | apply af | apply ah | refine ak ?_ fk.out | refine ak ?_ ko.out) | exact HB.out))) | (with_reducible refine Kd.aX ?_ _) | (with_reducible refine Kd.aW ?_ _) | (with_reducible refine Kd.bn ?_))); (case side4 => exact CZ.out); rintro e w' ⟨rfl, ⟨nd, rfl⟩⟩; refine ⟨_, rfl, ?_⟩))
     go_ret
     exact ⟨by first | rfl | (simp [av, au] <;> rfl) | (simp [*, av, au] <;> rfl), by repeat (first | (with_reducible first | exact HB.out | apply ag | apply af | apply ah | refine ak ?_ fk.out | refine ak ?_ ko.out) | exact HB.out)⟩
   ·replace c6 := Bool.eq_false_iff.mpr c6
    subst c6
    have H1 : (some false) = some r := by rw [if_neg (show ¬ (false = true) by decide)] at H; exact H
    clear H
    have H := H1
    clear H1
    obtain rfl := Option.some.inj H
    go_enter Tryz.func13, Tryz.ntmps13
    go_wp2_with (first | ((with_reducible refine aQ (N := 2) rfl ?_); refine aM ?hg (N := 2) ?hd (cs := #[.int .i64 a0_0, .int .i64 a0_1, .slice A0_2 l0_2.length c0_2, .slice A0_3 l0_3.length c0_3]) (t := 28) ?hr ?_; (case hd => rfl); (case hg => rfl); (case hr => first | (go_simp; done) | (go_simp; rfl)); intro cY hg w19 hbox hb; have n0_ := aa.mk (ar (by repeat (first | (with_reducible first | exact HB.out | apply ag | apply af | apply ah) | exact HB.out)) hb); have n1_ := aa.mk (hbox); have n2_ := aa.mk ((by rw [hg]; exact (aq (by repeat (first | (with_reducible first | exact HB.out | apply ag | apply af | apply ah) | exact HB.out))) : w.heap.size ≤ cY)); have n3_ := aa.mk ((by rw [hg]; exact (aq (by repeat (first | (with_reducible first | exact HB.out | apply ag | apply af | apply ah) | exact HB.out))) : w.heap.size ≤ cY)); clear HB; have HB := n0_; have cI := n1_; have xw := n2_; have fk := n3_; clear n0_ n1_ n2_ n3_; clear hb hbox hg) | ((with_reducible refine aQ (N := 3) rfl ?_); refine aM ?hg (N := 3) ?hd (cs := #[.int .i64 a1_0, .int .i64 a1_1, .slice A1_2 l1_2.length c1_2, .slice A1_3 l1_3.length c1_3]) (t := 28) ?hr ?_; (case hd => rfl); (case hg => rfl); (case hr => first | (go_simp; done) | (go_simp; rfl)); intro dC hg w20 hbox hb; have n0_ := aa.mk (aD (g := cY) (o := .cells #[.int .i64 a0_0, .int .i64 a0_1, .slice A0_2 l0_2.length c0_2, .slice A0_3 l0_3.length c0_3] 28 (0, 0)) (by (with_reducible repeat (first | refine al ?_ _ | refine ao ?_ | refine an ?_ _)); exact cI.out) hb); have n1_ := aa.mk (ar (by repeat (first | (with_reducible first | exact HB.out | apply ag | apply af | apply ah | refine ak ?_ fk.out) | exact HB.out)) hb); have n2_ := aa.mk (hbox); have n3_ := aa.mk ((by rw [hg]; exact (aq (by repeat (first | (with_reducible first | exact HB.out | apply ag | apply af | apply ah | refine ak ?_ fk.out) | exact HB.out))) : w.heap.size ≤ dC)); have n4_ := aa.mk ((by rw [hg]; exact (aq (by repeat (first | (with_reducible first | exact HB.out | apply ag | apply af | apply ah | refine ak ?_ fk.out) | exact HB.out))) : w.heap.size ≤ dC)); have n5_ := aa.mk ((by rw [hg]; exact Nat.ne_of_lt (a7 (g := cY) (o := .cells #[.int .i64 a0_0, .int .i64 a0_1, .slice A0_2 l0_2.length c0_2, .slice A0_3 l0_3.length c0_3] 28 (0, 0)) (by (with_reducible repeat (first | refine al ?_ _ | refine ao ?_ | refine an ?_ _)); exact cI.out)) : cY ≠ dC)); have n6_ := aa.mk ((by rw [hg]; exact Nat.ne_of_gt (a7 (g := cY) (o := .cells #[.int .i64 a0_0, .int .i64 a0_1, .slice A0_2 l0_2.length c0_2, .slice A0_3 l0_3.length c0_3] 28 (0, 0)) (by (with_reducible repeat (first | refine al ?_ _ | refine ao ?_ | refine an ?_ _)); exact cI.out)) : dC ≠ cY)); clear cI; clear HB; have cI := n0_; have HB := n1_; have dE := n2_; have xv := n3_; have ko := n4_; have gx := n5_; have gv := n6_; clear n0_ n1_ n2_ n3_ n4_ n5_ n6_; clear hb hbox hg; have Ep := gx.out; have Em := gv.out; have wL : w20.cell? ⟨cY, 0, none⟩ = some (.int .i64 a0_0) := (ai cI.out 0).trans rfl; have wK : w20.cell? ⟨cY, 1, none⟩ = some (.int .i64 a0_1) := (ai cI.out 1).trans rfl; have wJ : w20.cell? ⟨cY, 2, none⟩ = some (.slice A0_2 l0_2.length c0_2) := (ai cI.out 2).trans rfl; have wI : w20.cell? ⟨cY, 3, none⟩ = some (.slice A0_3 l0_3.length c0_3) := (ai cI.out 3).trans rfl; have wj := aj cI.out 0; have wi := aj cI.out 1; have wh := aj cI.out 2; have wg := aj cI.out 3; have hcz23_0 : w20.cell? ⟨dC, 0, none⟩ = some (.int .i64 a1_0) := (ai dE.out 0).trans rfl; have hcz23_1 : w20.cell? ⟨dC, 1, none⟩ = some (.int .i64 a1_1) := (ai dE.out 1).trans rfl; have hcz23_2 : w20.cell? ⟨dC, 2, none⟩ = some (.slice A1_2 l1_2.length c1_2) := (ai dE.out 2).trans rfl; have hcz23_3 : w20.cell? ⟨dC, 3, none⟩ = some (.slice A1_3 l1_3.length c1_3) := (ai dE.out 3).trans rfl; have GP := aj dE.out 0; have GO := aj dE.out 1; have GN := aj dE.out 2; have GM := aj dE.out 3) | ((with_reducible refine az (f := 41) rfl ?_); refine bH (some 19) rfl rfl Tryz.func41 (by kernel_rfl) rfl #[.slice A0_2 l0_2.length c0_2, .slice A1_2 l1_2.length c1_2] rfl (by (try simp only [List.map_toArray, List.map_cons, List.map_nil]); first | done | rfl | (simp only [List.length_drop, List.length_take]; rfl)) ?_; (with_reducible refine (bN.calls k _ _ l0_2 _ _ l1_2 false _ ?side1 ?side2 ?side3 ?side4 A5.out).mono ?_); (case side1 => repeat (first | exact (Kd.ay cy.out HB.out) | (with_reducible refine Kd.aX ?_ _) | (with_reducible refine Kd.aW ?_ _) | (with_reducible refine Kd.bn ?_))); (case side2 => exact cD.out); (case side3 => repeat (first | exact (Kd.ay zM.out HB.out) | (with_reducible refine Kd.aX ?_ _) | (with_reducible refine Kd.aW ?_ _) | (with_reducible refine Kd.bn ?_))); (case side4 => exact zR.out); rintro e w' ⟨rfl, ⟨nd, rfl⟩⟩; refine ⟨_, rfl, ?_⟩))
    go_ret
    exact ⟨by first | rfl | (simp [av, au] <;> rfl) | (simp [*, av, au] <;> rfl), by repeat (first | (with_reducible first | exact HB.out | apply ag | apply af | apply ah | refine ak ?_ fk.out | refine ak ?_ ko.out) | exact HB.out)⟩
  ·rw [if_neg c4] at H
   have c4b0 : (a0_1 == a1_1) = false := beq_eq_false_iff_ne.mpr c4
   have c4b1 : (a0_1 != a1_1) = true := bne_iff_ne.mpr c4
   obtain rfl := Option.some.inj H
   go_enter Tryz.func13, Tryz.ntmps13
   go_wp2_with (first | ((with_reducible refine aQ (N := 2) rfl ?_); refine aM ?hg (N := 2) ?hd (cs := #[.int .i64 a0_0, .int .i64 a0_1, .slice A0_2 l0_2.length c0_2, .slice A0_3 l0_3.length c0_3]) (t := 28) ?hr ?_; (case hd => rfl); (case hg => rfl); (case hr => first | (go_simp; done) | (go_simp; rfl)); intro cY hg w24 hbox hb; have n0_ := aa.mk (ar (by repeat (first | (with_reducible first | exact HB.out | apply ag | apply af | apply ah) | exact HB.out)) hb); have n1_ := aa.mk (hbox); have n2_ := aa.mk ((by rw [hg]; exact (aq (by repeat (first | (with_reducible first | exact HB.out | apply ag | apply af | apply ah) | exact HB.out))) : w.heap.size ≤ cY)); have n3_ := aa.mk ((by rw [hg]; exact (aq (by repeat (first | (with_reducible first | exact HB.out | apply ag | apply af | apply ah) | exact HB.out))) : w.heap.size ≤ cY)); clear HB; have HB := n0_; have cI := n1_; have xw := n2_; have fk := n3_; clear n0_ n1_ n2_ n3_; clear hb hbox hg) | ((with_reducible refine aQ (N := 3) rfl ?_); refine aM ?hg (N := 3) ?hd (cs := #[.int .i64 a1_0, .int .i64 a1_1, .slice A1_2 l1_2.length c1_2, .slice A1_3 l1_3.length c1_3]) (t := 28) ?hr ?_; (case hd => rfl); (case hg => rfl); (case hr => first | (go_simp; done) | (go_simp; rfl)); intro dC hg w25 hbox hb; have n0_ := aa.mk (aD (g := cY) (o := .cells #[.int .i64 a0_0, .int .i64 a0_1, .slice A0_2 l0_2.length c0_2, .slice A0_3 l0_3.length c0_3] 28 (0, 0)) (by (with_reducible repeat (first | refine al ?_ _ | refine ao ?_ | refine an ?_ _)); exact cI.out) hb); have n1_ := aa.mk (ar (by repeat (first | (with_reducible first | exact HB.out | apply ag | apply af | apply ah | refine ak ?_ fk.out) | exact HB.out)) hb); have n2_ := aa.mk (hbox); have n3_ := aa.mk ((by rw [hg]; exact (aq (by repeat (first | (with_reducible first | exact HB.out | apply ag | apply af | apply ah | refine ak ?_ fk.out) | exact HB.out))) : w.heap.size ≤ dC)); have n4_ := aa.mk ((by rw [hg]; exact (aq (by repeat (first | (with_reducible first | exact HB.out | apply ag | apply af | apply ah | refine ak ?_ fk.out) | exact HB.out))) : w.heap.size ≤ dC)); have n5_ := aa.mk ((by rw [hg]; exact Nat.ne_of_lt (a7 (g := cY) (o := .cells #[.int .i64 a0_0, .int .i64 a0_1, .slice A0_2 l0_2.length c0_2, .slice A0_3 l0_3.length c0_3] 28 (0, 0)) (by (with_reducible repeat (first | refine al ?_ _ | refine ao ?_ | refine an ?_ _)); exact cI.out)) : cY ≠ dC)); have n6_ := aa.mk ((by rw [hg]; exact Nat.ne_of_gt (a7 (g := cY) (o := .cells #[.int .i64 a0_0, .int .i64 a0_1, .slice A0_2 l0_2.length c0_2, .slice A0_3 l0_3.length c0_3] 28 (0, 0)) (by (with_reducible repeat (first | refine al ?_ _ | refine ao ?_ | refine an ?_ _)); exact cI.out)) : dC ≠ cY)); clear cI; clear HB; have cI := n0_; have HB := n1_; have dE := n2_; have xv := n3_; have ko := n4_; have gx := n5_; have gv := n6_; clear n0_ n1_ n2_ n3_ n4_ n5_ n6_; clear hb hbox hg; have Eo := gx.out; have El := gv.out; have BL : w25.cell? ⟨cY, 0, none⟩ = some (.int .i64 a0_0) := (ai cI.out 0).trans rfl; have BK : w25.cell? ⟨cY, 1, none⟩ = some (.int .i64 a0_1) := (ai cI.out 1).trans rfl; have BJ : w25.cell? ⟨cY, 2, none⟩ = some (.slice A0_2 l0_2.length c0_2) := (ai cI.out 2).trans rfl; have BI : w25.cell? ⟨cY, 3, none⟩ = some (.slice A0_3 l0_3.length c0_3) := (ai cI.out 3).trans rfl; have Bo := aj cI.out 0; have Bn := aj cI.out 1; have Bm := aj cI.out 2; have Bl := aj cI.out 3; have wH : w25.cell? ⟨dC, 0, none⟩ = some (.int .i64 a1_0) := (ai dE.out 0).trans rfl; have wG : w25.cell? ⟨dC, 1, none⟩ = some (.int .i64 a1_1) := (ai dE.out 1).trans rfl; have wE : w25.cell? ⟨dC, 2, none⟩ = some (.slice A1_2 l1_2.length c1_2) := (ai dE.out 2).trans rfl; have wD : w25.cell? ⟨dC, 3, none⟩ = some (.slice A1_3 l1_3.length c1_3) := (ai dE.out 3).trans rfl; have we := aj dE.out 0; have wb := aj dE.out 1; have wa := aj dE.out 2; have vZ := aj dE.out 3))
   go_ret
   exact ⟨by first | rfl | (simp [av, au] <;> rfl) | (simp [*, av, au] <;> rfl), by repeat (first | (with_reducible first | exact HB.out | apply ag | apply af | apply ah | refine ak ?_ fk.out | refine ak ?_ ko.out) | exact HB.out)⟩
 ·rw [if_neg c3] at H
  have c3b0 : (a0_0 == a1_0) = false := beq_eq_false_iff_ne.mpr c3
  have c3b1 : (a0_0 != a1_0) = true := bne_iff_ne.mpr c3
  obtain rfl := Option.some.inj H
  go_enter Tryz.func13, Tryz.ntmps13
  go_wp2_with (first | ((with_reducible refine aQ (N := 2) rfl ?_); refine aM ?hg (N := 2) ?hd (cs := #[.int .i64 a0_0, .int .i64 a0_1, .slice A0_2 l0_2.length c0_2, .slice A0_3 l0_3.length c0_3]) (t := 28) ?hr ?_; (case hd => rfl); (case hg => rfl); (case hr => first | (go_simp; done) | (go_simp; rfl)); intro cY hg w29 hbox hb; have n0_ := aa.mk (ar (by repeat (first | (with_reducible first | exact HB.out | apply ag | apply af | apply ah) | exact HB.out)) hb); have n1_ := aa.mk (hbox); have n2_ := aa.mk ((by rw [hg]; exact (aq (by repeat (first | (with_reducible first | exact HB.out | apply ag | apply af | apply ah) | exact HB.out))) : w.heap.size ≤ cY)); have n3_ := aa.mk ((by rw [hg]; exact (aq (by repeat (first | (with_reducible first | exact HB.out | apply ag | apply af | apply ah) | exact HB.out))) : w.heap.size ≤ cY)); clear HB; have HB := n0_; have cI := n1_; have xw := n2_; have fk := n3_; clear n0_ n1_ n2_ n3_; clear hb hbox hg) | ((with_reducible refine aQ (N := 3) rfl ?_); refine aM ?hg (N := 3) ?hd (cs := #[.int .i64 a1_0, .int .i64 a1_1, .slice A1_2 l1_2.length c1_2, .slice A1_3 l1_3.length c1_3]) (t := 28) ?hr ?_; (case hd => rfl); (case hg => rfl); (case hr => first | (go_simp; done) | (go_simp; rfl)); intro dC hg w30 hbox hb; have n0_ := aa.mk (aD (g := cY) (o := .cells #[.int .i64 a0_0, .int .i64 a0_1, .slice A0_2 l0_2.length c0_2, .slice A0_3 l0_3.length c0_3] 28 (0, 0)) (by (with_reducible repeat (first | refine al ?_ _ | refine ao ?_ | refine an ?_ _)); exact cI.out) hb); have n1_ := aa.mk (ar (by repeat (first | (with_reducible first | exact HB.out | apply ag | apply af | apply ah | refine ak ?_ fk.out) | exact HB.out)) hb); have n2_ := aa.mk (hbox); have n3_ := aa.mk ((by rw [hg]; exact (aq (by repeat (first | (with_reducible first | exact HB.out | apply ag | apply af | apply ah | refine ak ?_ fk.out) | exact HB.out))) : w.heap.size ≤ dC)); have n4_ := aa.mk ((by rw [hg]; exact (aq (by repeat (first | (with_reducible first | exact HB.out | apply ag | apply af | apply ah | refine ak ?_ fk.out) | exact HB.out))) : w.heap.size ≤ dC)); have n5_ := aa.mk ((by rw [hg]; exact Nat.ne_of_lt (a7 (g := cY) (o := .cells #[.int .i64 a0_0, .int .i64 a0_1, .slice A0_2 l0_2.length c0_2, .slice A0_3 l0_3.length c0_3] 28 (0, 0)) (by (with_reducible repeat (first | refine al ?_ _ | refine ao ?_ | refine an ?_ _)); exact cI.out)) : cY ≠ dC)); have n6_ := aa.mk ((by rw [hg]; exact Nat.ne_of_gt (a7 (g := cY) (o := .cells #[.int .i64 a0_0, .int .i64 a0_1, .slice A0_2 l0_2.length c0_2, .slice A0_3 l0_3.length c0_3] 28 (0, 0)) (by (with_reducible repeat (first | refine al ?_ _ | refine ao ?_ | refine an ?_ _)); exact cI.out)) : dC ≠ cY)); clear cI; clear HB; have cI := n0_; have HB := n1_; have dE := n2_; have xv := n3_; have ko := n4_; have gx := n5_; have gv := n6_; clear n0_ n1_ n2_ n3_ n4_ n5_ n6_; clear hb hbox hg; have hnb31 := gx.out; have hnc31 := gv.out; have Hb : w30.cell? ⟨cY, 0, none⟩ = some (.int .i64 a0_0) := (ai cI.out 0).trans rfl; have Ha : w30.cell? ⟨cY, 1, none⟩ = some (.int .i64 a0_1) := (ai cI.out 1).trans rfl; have G9 : w30.cell? ⟨cY, 2, none⟩ = some (.slice A0_2 l0_2.length c0_2) := (ai cI.out 2).trans rfl; have G8 : w30.cell? ⟨cY, 3, none⟩ = some (.slice A0_3 l0_3.length c0_3) := (ai cI.out 3).trans rfl; have GC := aj cI.out 0; have GB := aj cI.out 1; have GA := aj cI.out 2; have Gz := aj cI.out 3; have G7 : w30.cell? ⟨dC, 0, none⟩ = some (.int .i64 a1_0) := (ai dE.out 0).trans rfl; have G6 : w30.cell? ⟨dC, 1, none⟩ = some (.int .i64 a1_1) := (ai dE.out 1).trans rfl; have G5 : w30.cell? ⟨dC, 2, none⟩ = some (.slice A1_2 l1_2.length c1_2) := (ai dE.out 2).trans rfl; have G4 : w30.cell? ⟨dC, 3, none⟩ = some (.slice A1_3 l1_3.length c1_3) := (ai dE.out 3).trans rfl; have Gy := aj dE.out 0; have Gx := aj dE.out 1; have Gw := aj dE.out 2; have Gv := aj dE.out 3))
  go_ret
  exact ⟨by first | rfl | (simp [av, au] <;> rfl) | (simp [*, av, au] <;> rfl), by repeat (first | (with_reducible first | exact HB.out | apply ag | apply af | apply ah | refine ak ?_ fk.out | refine ak ?_ ko.out) | exact HB.out)⟩
end Go.Proofs.YtmjlmloomkodpaaGreatDoor.PA
namespace Go.Proofs.YtmjlmloomkodpaaGreatDoor.PA
open Go.RowKit Go.Proofs.ae.aw Go.Proofs.ae.aJ Go.Proofs.ae.aN
attribute [local go_sem] bm bh bA bz a6 aZ bj bf
set_option linter.unusedVariables false
set_option linter.unusedSimpArgs false
def ch.l0 : Nat → List Int → Int → Int → Option (Int × List Int)
 | 0, _, _, _ => none
 | k + 1, x0, x1, x5 => if x5 < (x0.length : Int) then (if 0 ≤ x5 then (ch.l0 k (x0.set (x5 : Int).toNat x1) (wrap64 (x1 + 1)) (wrap64 (x5 + 1))) else (none)) else (some (x1, x0))
def ch.f (k : Nat) (l0 : List Int) (a1 : Int) : Option (Int × List Int) := ch.l0 k l0 a1 0
set_option maxHeartbeats 8000000 in
set_option maxRecDepth 100000 in
theorem ch.calls (k : Nat) (P0_ : Nat → Prop) (u9000_ : Value) (l0 : List Int) (a1 : Int) (r1 : Int) (r2 : List Int) (w0 w : World) (hB : Below w0.heap.size w0 w) (ho0 : Kd.R (Kd.int .i64) 3 w w0.heap.size P0_ u9000_ l0) (h : ch.f k l0 a1 = some (r1, r2)) :
  Calls Tryz.prog 43 #[u9000_, .int .i64 a1] w fun e w' => e = .returned (.int .i64 r1) ∧ Kd.R (Kd.int .i64) 3 w' w0.heap.size (fun k_ => (P0_ k_ ∨ w.heap.size ≤ k_)) u9000_ r2 ∧ Below w0.heap.size w0 w' ∧ Kept w w' (fun k_ => P0_ k_) := by
 have HO0 := aa.mk (show Kd.R (Kd.int .i64) 3 w w0.heap.size (fun k_ => (P0_ k_ ∨ w.heap.size ≤ k_)) u9000_ l0 from Kd.bT ho0 (fun k_ hk => (.inl hk)))
 have HK := aa.mk (Kept.refl w (fun k_ => P0_ k_))
 have HW0 := aa.mk hB.size
 have HB := aa.mk hB
 clear hB
 have H : (ch.l0 k l0 a1 0) = some (r1, r2) := h
 clear h
 have H' := aa.mk H
 clear H
 go_enter Tryz.func43, Tryz.ntmps43
 go_wp2
 go_loopg [1, 5] k (fun kq v1 v5 w' => ∃ (x0_1 : List Int) (x1_1 : Int) (x5_1 : Int), v1 = .int .i64 x1_1 ∧ v5 = .int .i64 x5_1 ∧ aa (ch.l0 kq x0_1 x1_1 x5_1 = some (r1, r2)) ∧ aa (kq ≤ k) ∧ aa (Kd.R (Kd.int .i64) 3 w' w0.heap.size (fun k_ => (P0_ k_ ∨ w.heap.size ≤ k_)) u9000_ x0_1) ∧ aa (Kept w w' (fun k_ => P0_ k_)) ∧ aa (Below w0.heap.size w0 w'))
 case atStart => exact ⟨(l0), (a1), (0), (by first | rfl | (simp; done) | (simp [*]; done)), (by first | rfl | (simp; done) | (simp [*]; done)), H', ⟨Nat.le_refl _⟩, ⟨by (with_reducible repeat (first | apply Kd.aH | apply Kd.aG | apply Kd.aV)); exact HO0.out⟩, ⟨by repeat (first | (with_reducible first | exact HK.out | apply Kept.alloc | apply Kept.drewN | apply Kept.drew) | exact HK.out)⟩, ⟨by repeat (first | (with_reducible first | exact HB.out | apply ag | apply af | apply ah) | exact HB.out)⟩⟩
 case round =>
  clear H'
  try clear p2
  obtain ⟨x0_1, x1_1, x5_1, rfl, rfl, HA, HK1, qi, HK, HB⟩ := hrel
  cases gk with
  | zero => exact absurd HA.out (by simp [ch.l0])
  | succ k1 =>
   have H := HA.out
   clear HA
   simp only [ch.l0] at H
   by_cases c3 : x5_1 < (x0_1.length : Int)
   ·rw [if_pos c3] at H
    have c3b0 : decide (x5_1 < (x0_1.length : Int)) = true := decide_eq_true c3
    clear c3
    by_cases c4 : 0 ≤ x5_1
    ·rw [if_pos c4] at H
     have c4b0 : decide (0 ≤ x5_1) = true := decide_eq_true c4
     clear c4
     obtain ⟨y403, hy403⟩ : ∃ y_ : List Int, y_ = (x0_1.set (x5_1 : Int).toNat x1_1) := ⟨_, rfl⟩
     replace H : (ch.l0 k1 y403 (wrap64 (x1_1 + 1)) (wrap64 (x5_1 + 1))) = some (r1, r2) := by first | (rw [hy403]; with_reducible exact H) | (have H2_ := (Option.bind_some _ _).symm.trans H; rw [hy403]; with_reducible exact H2_) | (have H2_ := (Option.bind_some _ _).symm.trans H; with_reducible exact H2_) | with_reducible exact H | (rw [hy403]; exact H) | exact H
     have Ny403 := aa.mk hy403
     clear hy403
     have H' := aa.mk H
     clear H
     obtain ⟨Ao6, co6, eo6⟩ := Kd.bE qi.out
     subst eo6
     have p5 : 0 ≤ (x5_1 : Int) := of_decide_eq_true (by first | (with_reducible assumption) | assumption)
     have q5 : (x5_1 : Int) < ((x0_1.length : Int) : Int) := of_decide_eq_true (by first | (with_reducible assumption) | assumption)
     obtain ⟨go5, co5, eo5, gb5, gl5, cl5, HG5⟩ := Kd.nM qi.out (by omega)
     (first | cases eo5 | (injection eo5 with ea_ en_ ec_; (first | subst ea_ | (injection ea_ with ea_; subst ea_)); subst ec_; clear en_))
     have GB5 := aa.mk gb5
     have GG5 := aa.mk HG5
     clear gb5 gl5 HG5
     have HMgo5 := aa.mk (show (P0_ go5 ∨ w.heap.size ≤ go5) from (qi.out.1 _ rfl))
     obtain ⟨hx5_0, hf5_0⟩ := Kd.nm 0 qi.out (x5_1 : Int) p5 q5
     replace p5 := eq_true p5
     replace q5 := eq_true q5
     have HP7 := Kd.qb qi.out (x5_1 : Int) x1_1
     go_wp2_with (first | ((with_reducible refine jz (t := 3) (p := 15) rfl ?_); refine iU (t := 3) (p := 15) (v := ?vo_w8) (w1 := (wr.setCell ⟨go5, (x5_1 : Int).toNat, none⟩ (.int .i64 x1_1))) ?hg ?ho ?hn ?hr ?_; (case ho => rfl); (case hg => rfl); (case hn => rfl); (case hr => first | (go_simp; done) | (go_simp; rfl)); intro w8 hw; have hg : wr.grownBy w8 (some go5) := (by rw [hw]; exact HP7.2); have hp_ : Kd.R (Kd.int .i64) 3 w8 w0.heap.size (fun k_ => (P0_ k_ ∨ w.heap.size ≤ k_)) (.slice (some ⟨go5, 0, none⟩) x0_1.length co6) y403 := (by rw [hw, Ny403.out]; exact HP7.1); clear HP7; have n0_ := aa.mk (hp_); have n1_ := aa.mk ((by rw [hw]; exact ak (HB.out) GB5.out : Below w0.heap.size w0 w8)); have n2_ := aa.mk (Kept.j6 (S := (fun k_ => P0_ k_)) hg (by repeat (first | (with_reducible first | exact HK.out | apply Kept.alloc | apply Kept.drewN | apply Kept.drew) | exact HK.out)) (fun k_ e_ => (qi.out.1 k_ e_))); clear qi; clear HB; clear HK; have qi := n0_; have HB := n1_; have HK := n2_; clear n0_ n1_ n2_; clear hg hw hp_))
     go_roundg k1
     case measure => have := HK1.out; omega
     case rel => exact ⟨(y403), (wrap64 (x1_1 + 1)), (wrap64 (x5_1 + 1)), (by first | rfl | (simp; done) | (simp [*]; done)), (by first | rfl | (simp; done) | (simp [*]; done)), H', ⟨by have := HK1.out; omega⟩, ⟨by (with_reducible repeat (first | apply Kd.aH | apply Kd.aG | apply Kd.aV)); exact qi.out⟩, ⟨by repeat (first | (with_reducible first | exact HK.out | apply Kept.alloc | apply Kept.drewN | apply Kept.drew) | exact HK.out)⟩, ⟨by repeat (first | (with_reducible first | exact HB.out | apply ag | apply af | apply ah) | exact HB.out)⟩⟩
    ·rw [if_neg c4] at H
     exact absurd H (by simp)
   ·rw [if_neg c3] at H
    have c3b0 : decide (x5_1 < (x0_1.length : Int)) = false := decide_eq_false c3
    clear c3
    simp only [Option.some.injEq, Prod.mk.injEq] at H
    obtain ⟨rfl, rfl⟩ := H
    obtain ⟨Ao9, co9, eo9⟩ := Kd.bE qi.out
    subst eo9
    go_wp2
    go_ret
    exact ⟨by first | rfl | (simp [av, au] <;> rfl) | (simp [*, av, au] <;> rfl), by (with_reducible repeat (first | apply Kd.aH | apply Kd.aG | apply Kd.aV)); exact qi.out, by repeat (first | (with_reducible first | exact HB.out | apply ag | apply af | apply ah) | exact HB.out), by repeat (first | (with_reducible first | exact HK.out | apply Kept.alloc | apply Kept.drewN | apply Kept.drew) | exact HK.out)⟩
end Go.Proofs.YtmjlmloomkodpaaGreatDoor.PA
namespace Go.Proofs.YtmjlmloomkodpaaGreatDoor.PA
open Go.RowKit Go.Proofs.ae.aw Go.Proofs.ae.aJ Go.Proofs.ae.aN
attribute [local go_sem] bm bh bA bz a6 aZ bj bf
set_option linter.unusedVariables false
set_option linter.unusedSimpArgs false
def dI.f (k : Nat) (a0_0 : Int) (a0_1 : Int) (l0_2 : List Int) (l0_3 : List Int) (a1 : Int) : Option (Int × List Int × List Int) := (ch.f k l0_2 a1).bind fun bt405 => ((ch.f k l0_3 bt405.1).bind fun bt407 => (some (bt407.1, bt405.2, bt407.2)))
set_option maxHeartbeats 8000000 in
set_option maxRecDepth 100000 in
theorem dI.calls (k : Nat) (a0_0 : Int) (a0_1 : Int) (P0_2_ : Nat → Prop) (u9000_ : Value) (l0_2 : List Int) (P0_3_ : Nat → Prop) (u9001_ : Value) (l0_3 : List Int) (a1 : Int) (r1 : Int) (r2 : List Int) (r3 : List Int) (w0 w : World) (hB : Below w0.heap.size w0 w) (ug : Kd.R (Kd.int .i64) 3 w w0.heap.size P0_2_ u9000_ l0_2) (nA : ∀ k_, P0_2_ k_ → ¬ P0_3_ k_) (uf : Kd.R (Kd.int .i64) 3 w w0.heap.size P0_3_ u9001_ l0_3) (nz : ∀ k_, P0_3_ k_ → ¬ P0_2_ k_) (h : dI.f k a0_0 a0_1 l0_2 l0_3 a1 = some (r1, r2, r3)) :
  Calls Tryz.prog 16 #[.agg #[.int .i64 a0_0, .int .i64 a0_1, u9000_, u9001_], .int .i64 a1] w fun e w' => e = .returned (.int .i64 r1) ∧ Kd.R (Kd.int .i64) 3 w' w0.heap.size (fun k_ => ((P0_2_ k_ ∨ P0_3_ k_) ∨ w.heap.size ≤ k_)) u9000_ r2 ∧ Kd.R (Kd.int .i64) 3 w' w0.heap.size (fun k_ => ((P0_2_ k_ ∨ P0_3_ k_) ∨ w.heap.size ≤ k_)) u9001_ r3 ∧ Below w0.heap.size w0 w' ∧ Kept w w' (fun k_ => P0_2_ k_ ∨ P0_3_ k_) := by
 have hu28 := Tryz.underlying28
 have fA := aa.mk (show Kd.R (Kd.int .i64) 3 w w0.heap.size (fun k_ => ((P0_2_ k_ ∨ P0_3_ k_) ∨ w.heap.size ≤ k_) ∧ some k_ ≠ (u9001_ : Value).ownBlock) u9000_ l0_2 from Kd.bT ug (fun k_ hk => ⟨(.inl (.inl hk)), fun e_ => nA k_ hk (uf.1 k_ e_.symm)⟩))
 have fz := aa.mk (show Kd.R (Kd.int .i64) 3 w w0.heap.size (fun k_ => ((P0_2_ k_ ∨ P0_3_ k_) ∨ w.heap.size ≤ k_) ∧ some k_ ≠ (u9000_ : Value).ownBlock) u9001_ l0_3 from Kd.bT uf (fun k_ hk => ⟨(.inl (.inr hk)), fun e_ => nz k_ hk (ug.1 k_ e_.symm)⟩))
 have HK := aa.mk (Kept.refl w (fun k_ => P0_2_ k_ ∨ P0_3_ k_))
 have HW0 := aa.mk hB.size
 have HB := aa.mk hB
 clear hB
 have H : ((ch.f k l0_2 a1).bind fun bt405 => ((ch.f k l0_3 bt405.1).bind fun bt407 => (some (bt407.1, bt405.2, bt407.2)))) = some (r1, r2, r3) := h
 clear h
 replace H := Option.bind_eq_some_iff.mp H
 obtain ⟨⟨t405, t406⟩, A30, H⟩ := H
 replace H : ((ch.f k l0_3 t405).bind fun bt407 => (some (bt407.1, t406, bt407.2))) = some (r1, r2, r3) := H
 have A3 := aa.mk A30
 clear A30
 replace H := Option.bind_eq_some_iff.mp H
 obtain ⟨⟨t407, t408⟩, A40, H⟩ := H
 replace H : (some (t407, t406, t408)) = some (r1, r2, r3) := H
 have A4 := aa.mk A40
 clear A40
 simp only [Option.some.injEq, Prod.mk.injEq] at H
 obtain ⟨rfl, rfl, rfl⟩ := H
 obtain ⟨Ao5, co5, eo5⟩ := Kd.bE fA.out
 subst eo5
 obtain ⟨Ao6, co6, eo6⟩ := Kd.bE fz.out
 subst eo6
 go_enter Tryz.func16, Tryz.ntmps16
 go_wp2_with (first | ((with_reducible refine aQ (N := 2) rfl ?_); refine aM ?hg (N := 2) ?hd (cs := #[.int .i64 a0_0, .int .i64 a0_1, .slice Ao5 l0_2.length co5, .slice Ao6 l0_3.length co6]) (t := 28) ?hr ?_; (case hd => rfl); (case hg => rfl); (case hr => first | (go_simp; done) | (go_simp; rfl)); intro mf hg w7 hbox hb; have n0_ := aa.mk (Kd.cB (by (with_reducible repeat (first | apply Kd.aH | apply Kd.aG | apply Kd.aV)); exact fA.out) hb); have n1_ := aa.mk (Kd.cB (by (with_reducible repeat (first | apply Kd.aH | apply Kd.aG | apply Kd.aV)); exact fz.out) hb); have n2_ := aa.mk (Kept.below (S := (fun k_ => P0_2_ k_ ∨ P0_3_ k_)) (by repeat (first | (with_reducible first | exact HK.out | apply Kept.alloc | apply Kept.drewN | apply Kept.drew) | exact HK.out)) hb); have n3_ := aa.mk (ar (by repeat (first | (with_reducible first | exact HB.out | apply ag | apply af | apply ah) | exact HB.out)) hb); have n4_ := aa.mk (hbox); have n5_ := aa.mk ((by rw [hg]; exact (by first | exact HK.out.1 | exact (show Kept w _ (fun k_ => P0_2_ k_ ∨ P0_3_ k_) from by repeat (first | (with_reducible first | exact HK.out | apply Kept.alloc | apply Kept.drewN | apply Kept.drew) | exact HK.out)).1) : w.heap.size ≤ mf)); have n6_ := aa.mk ((by rw [hg]; exact (aq (by repeat (first | (with_reducible first | exact HB.out | apply ag | apply af | apply ah) | exact HB.out))) : w0.heap.size ≤ mf)); clear fA; clear fz; clear HK; clear HB; have fA := n0_; have fz := n1_; have HK := n2_; have HB := n3_; have ga := n4_; have zT := n5_; have zW := n6_; clear n0_ n1_ n2_ n3_ n4_ n5_ n6_; clear hb hbox hg; have lf : w7.cell? ⟨mf, 0, none⟩ = some (.int .i64 a0_0) := (ai ga.out 0).trans rfl; have la : w7.cell? ⟨mf, 1, none⟩ = some (.int .i64 a0_1) := (ai ga.out 1).trans rfl; have mD : w7.cell? ⟨mf, 2, none⟩ = some (.slice Ao5 l0_2.length co5) := (ai ga.out 2).trans rfl; have mC : w7.cell? ⟨mf, 3, none⟩ = some (.slice Ao6 l0_3.length co6) := (ai ga.out 3).trans rfl; have k5 := aj ga.out 0; have kZ := aj ga.out 1; have mB := aj ga.out 2; have mz := aj ga.out 3) | ((with_reducible refine az (f := 43) rfl ?_); refine bH (some 8) rfl rfl Tryz.func43 (by kernel_rfl) rfl #[.slice Ao5 l0_2.length co5, .int .i64 a1] rfl (by (try simp only [List.map_toArray, List.map_cons, List.map_nil]); first | done | rfl | (simp only [List.length_drop, List.length_take]; rfl)) ?_; (with_reducible refine (ch.calls k (fun k_ => some k_ = (.slice Ao5 l0_2.length co5 : Value).ownBlock) (.slice Ao5 l0_2.length co5) l0_2 a1 t405 t406 w0 _ ?side1 ?side2 A3.out).mono ?_); (case side1 => repeat (first | (with_reducible first | exact HB.out | apply ag | apply af | apply ah | refine ak ?_ zW.out) | exact HB.out)); (case side2 => exact Kd.jY rfl fA.out); rintro e w9 ⟨rfl, hy0, hb, hkp⟩; refine ⟨_, rfl, ?_⟩; have n0_ := aa.mk (Kd.tl rfl hy0 (fun k_ e_ => fA.out.1 k_ e_)); have n1_ := aa.mk (Kd.bT (ok' := fun k_ => ((P0_2_ k_ ∨ P0_3_ k_) ∨ w.heap.size ≤ k_) ∧ some k_ ≠ (.slice Ao5 l0_2.length co5 : Value).ownBlock) (Kd.xn (fz.out) hkp (fun k_ hk_ hs_ => (hk_.2) hs_)) (fun k_ hk_ => ⟨hk_.1.1, hk_.1.2⟩)); have n2_ := aa.mk (il (by (with_reducible repeat (first | refine al ?_ _ | refine ao ?_ | refine an ?_ _)); exact ga.out) hkp (fun hs_ => (fun e_ => (Kd.jC fA.out ga.out (by decide)) e_) hs_)); have n3_ := aa.mk (Kept.tt (S := (fun k_ => P0_2_ k_ ∨ P0_3_ k_)) (by repeat (first | (with_reducible first | exact HK.out | apply Kept.alloc | apply Kept.drewN | apply Kept.drew | refine Kept.setCell ?_ (.inr zT.out) _) | exact HK.out)) hkp (fun k_ hs_ => (fun e_ => (fA.out.1 k_ e_.symm).1) hs_)); have n4_ := aa.mk (hb); clear fA; clear fz; clear ga; clear HK; clear HB; have fA := n0_; have fz := n1_; have ga := n2_; have HK := n3_; have HB := n4_; clear n0_ n1_ n2_ n3_ n4_; (try clear hb); (try clear hkp); (try clear hy0); have jS : w9.cell? ⟨mf, 0, none⟩ = some (.int .i64 a0_0) := (ai ga.out 0).trans rfl; have jR : w9.cell? ⟨mf, 1, none⟩ = some (.int .i64 a0_1) := (ai ga.out 1).trans rfl; have jQ : w9.cell? ⟨mf, 2, none⟩ = some (.slice Ao5 l0_2.length co5) := (ai ga.out 2).trans rfl; have jP : w9.cell? ⟨mf, 3, none⟩ = some (.slice Ao6 l0_3.length co6) := (ai ga.out 3).trans rfl; have jO := aj ga.out 0; have jN := aj ga.out 1; have jM := aj ga.out 2; have jL := aj ga.out 3) | ((with_reducible refine az (f := 43) rfl ?_); refine bH (some 12) rfl rfl Tryz.func43 (by kernel_rfl) rfl #[.slice Ao6 l0_3.length co6, .int .i64 t405] rfl (by (try simp only [List.map_toArray, List.map_cons, List.map_nil]); first | done | rfl | (simp only [List.length_drop, List.length_take]; rfl)) ?_; (with_reducible refine (ch.calls k (fun k_ => some k_ = (.slice Ao6 l0_3.length co6 : Value).ownBlock) (.slice Ao6 l0_3.length co6) l0_3 t405 t407 t408 w0 _ ?side1 ?side2 A4.out).mono ?_); (case side1 => repeat (first | (with_reducible first | exact HB.out | apply ag | apply af | apply ah | refine ak ?_ zW.out) | exact HB.out)); (case side2 => exact Kd.jY rfl fz.out); rintro e w11 ⟨rfl, hy0, hb, hkp⟩; refine ⟨_, rfl, ?_⟩; have n0_ := aa.mk (Kd.bT (ok' := fun k_ => ((P0_2_ k_ ∨ P0_3_ k_) ∨ w.heap.size ≤ k_) ∧ some k_ ≠ (.slice Ao6 l0_3.length co6 : Value).ownBlock) (Kd.xn (fA.out) hkp (fun k_ hk_ hs_ => (hk_.2) hs_)) (fun k_ hk_ => ⟨hk_.1.1, hk_.1.2⟩)); have n1_ := aa.mk (Kd.tl rfl hy0 (fun k_ e_ => fz.out.1 k_ e_)); have n2_ := aa.mk (il (by (with_reducible repeat (first | refine al ?_ _ | refine ao ?_ | refine an ?_ _)); exact ga.out) hkp (fun hs_ => (fun e_ => (Kd.jC fz.out ga.out (by decide)) e_) hs_)); have n3_ := aa.mk (Kept.tt (S := (fun k_ => P0_2_ k_ ∨ P0_3_ k_)) (by repeat (first | (with_reducible first | exact HK.out | apply Kept.alloc | apply Kept.drewN | apply Kept.drew | refine Kept.setCell ?_ (.inr zT.out) _) | exact HK.out)) hkp (fun k_ hs_ => (fun e_ => (fz.out.1 k_ e_.symm).1) hs_)); have n4_ := aa.mk (hb); clear fA; clear fz; clear ga; clear HK; clear HB; have fA := n0_; have fz := n1_; have ga := n2_; have HK := n3_; have HB := n4_; clear n0_ n1_ n2_ n3_ n4_; (try clear hb); (try clear hkp); (try clear hy0)))
 go_ret
 exact ⟨by first | rfl | (simp [av, au] <;> rfl) | (simp [*, av, au] <;> rfl), by (with_reducible repeat (first | apply Kd.aH | apply Kd.aG | apply Kd.aV)); exact Kd.bT fA.out (fun _ hk => hk.1), by (with_reducible repeat (first | apply Kd.aH | apply Kd.aG | apply Kd.aV)); exact Kd.bT fz.out (fun _ hk => hk.1), by repeat (first | (with_reducible first | exact HB.out | apply ag | apply af | apply ah | refine ak ?_ zW.out) | exact HB.out), by repeat (first | (with_reducible first | exact HK.out | apply Kept.alloc | apply Kept.drewN | apply Kept.drew | refine Kept.setCell ?_ (.inr zT.out) _) | exact HK.out)⟩
end Go.Proofs.YtmjlmloomkodpaaGreatDoor.PA
namespace Go.Proofs.YtmjlmloomkodpaaGreatDoor.PA
open Go.RowKit Go.Proofs.ae.aw Go.Proofs.ae.aJ Go.Proofs.ae.aN
attribute [local go_sem] bm bh bA bz a6 aZ bj bf
set_option linter.unusedVariables false
set_option linter.unusedSimpArgs false
def eU.f (k : Nat) (a0_0 : Int) (a0_1 : Int) (l0_2 : List Int) (l0_3 : List Int) (a0_4 : Int) (a0_5 : Bool) (a0_6 : Int) (a1 : Int) : Option (Int × List Int × List Int) := (dI.f k a0_0 a0_1 l0_2 l0_3 a1).bind fun bt460 => (some (bt460.1, bt460.2.1, bt460.2.2))
set_option maxHeartbeats 8000000 in
set_option maxRecDepth 100000 in
theorem eU.calls (k : Nat) (a0_0 : Int) (a0_1 : Int) (P0_2_ : Nat → Prop) (u9000_ : Value) (l0_2 : List Int) (P0_3_ : Nat → Prop) (u9001_ : Value) (l0_3 : List Int) (a0_4 : Int) (a0_5 : Bool) (a0_6 : Int) (a1 : Int) (r1 : Int) (r2 : List Int) (r3 : List Int) (w0 w : World) (hB : Below w0.heap.size w0 w) (ug : Kd.R (Kd.int .i64) 3 w w0.heap.size P0_2_ u9000_ l0_2) (nA : ∀ k_, P0_2_ k_ → ¬ P0_3_ k_) (uf : Kd.R (Kd.int .i64) 3 w w0.heap.size P0_3_ u9001_ l0_3) (nz : ∀ k_, P0_3_ k_ → ¬ P0_2_ k_) (h : eU.f k a0_0 a0_1 l0_2 l0_3 a0_4 a0_5 a0_6 a1 = some (r1, r2, r3)) :
  Calls Tryz.prog 15 #[.agg #[.int .i64 a0_0, .int .i64 a0_1, u9000_, u9001_, .int .i64 a0_4, .bool a0_5, .int .i64 a0_6], .int .i64 a1] w fun e w' => e = .returned (.int .i64 r1) ∧ Kd.R (Kd.int .i64) 3 w' w0.heap.size (fun k_ => ((P0_2_ k_ ∨ P0_3_ k_) ∨ w.heap.size ≤ k_)) u9000_ r2 ∧ Kd.R (Kd.int .i64) 3 w' w0.heap.size (fun k_ => ((P0_2_ k_ ∨ P0_3_ k_) ∨ w.heap.size ≤ k_)) u9001_ r3 ∧ Below w0.heap.size w0 w' ∧ Kept w w' (fun k_ => P0_2_ k_ ∨ P0_3_ k_) := by
 have hu32 := Tryz.underlying32
 have hu28 := Tryz.underlying28
 have fA := aa.mk (show Kd.R (Kd.int .i64) 3 w w0.heap.size (fun k_ => ((P0_2_ k_ ∨ P0_3_ k_) ∨ w.heap.size ≤ k_) ∧ some k_ ≠ (u9001_ : Value).ownBlock) u9000_ l0_2 from Kd.bT ug (fun k_ hk => ⟨(.inl (.inl hk)), fun e_ => nA k_ hk (uf.1 k_ e_.symm)⟩))
 have fz := aa.mk (show Kd.R (Kd.int .i64) 3 w w0.heap.size (fun k_ => ((P0_2_ k_ ∨ P0_3_ k_) ∨ w.heap.size ≤ k_) ∧ some k_ ≠ (u9000_ : Value).ownBlock) u9001_ l0_3 from Kd.bT uf (fun k_ hk => ⟨(.inl (.inr hk)), fun e_ => nz k_ hk (ug.1 k_ e_.symm)⟩))
 have HK := aa.mk (Kept.refl w (fun k_ => P0_2_ k_ ∨ P0_3_ k_))
 have HW0 := aa.mk hB.size
 have HB := aa.mk hB
 clear hB
 have H : ((dI.f k a0_0 a0_1 l0_2 l0_3 a1).bind fun bt460 => (some (bt460.1, bt460.2.1, bt460.2.2))) = some (r1, r2, r3) := h
 clear h
 replace H := Option.bind_eq_some_iff.mp H
 obtain ⟨⟨t460, t461, t462⟩, A30, H⟩ := H
 replace H : (some (t460, t461, t462)) = some (r1, r2, r3) := H
 have A3 := aa.mk A30
 clear A30
 simp only [Option.some.injEq, Prod.mk.injEq] at H
 obtain ⟨rfl, rfl, rfl⟩ := H
 obtain ⟨Ao4, co4, eo4⟩ := Kd.bE fA.out
 subst eo4
 obtain ⟨Ao5, co5, eo5⟩ := Kd.bE fz.out
 subst eo5
 go_enter Tryz.func15, Tryz.ntmps15
 go_wp2_with (first | ((with_reducible refine aQ (N := 2) rfl ?_); refine aM ?hg (N := 2) ?hd (cs := #[.int .i64 a0_0, .int .i64 a0_1, .slice Ao4 l0_2.length co4, .slice Ao5 l0_3.length co5, .int .i64 a0_4, .bool a0_5, .int .i64 a0_6]) (t := 32) ?hr ?_; (case hd => rfl); (case hg => rfl); (case hr => first | (go_simp; done) | (go_simp; rfl)); intro mY hg w6 hbox hb; have n0_ := aa.mk (Kd.cB (by (with_reducible repeat (first | apply Kd.aH | apply Kd.aG | apply Kd.aV)); exact fA.out) hb); have n1_ := aa.mk (Kd.cB (by (with_reducible repeat (first | apply Kd.aH | apply Kd.aG | apply Kd.aV)); exact fz.out) hb); have n2_ := aa.mk (Kept.below (S := (fun k_ => P0_2_ k_ ∨ P0_3_ k_)) (by repeat (first | (with_reducible first | exact HK.out | apply Kept.alloc | apply Kept.drewN | apply Kept.drew) | exact HK.out)) hb); have n3_ := aa.mk (ar (by repeat (first | (with_reducible first | exact HB.out | apply ag | apply af | apply ah) | exact HB.out)) hb); have n4_ := aa.mk (hbox); have n5_ := aa.mk ((by rw [hg]; exact (by first | exact HK.out.1 | exact (show Kept w _ (fun k_ => P0_2_ k_ ∨ P0_3_ k_) from by repeat (first | (with_reducible first | exact HK.out | apply Kept.alloc | apply Kept.drewN | apply Kept.drew) | exact HK.out)).1) : w.heap.size ≤ mY)); have n6_ := aa.mk ((by rw [hg]; exact (aq (by repeat (first | (with_reducible first | exact HB.out | apply ag | apply af | apply ah) | exact HB.out))) : w0.heap.size ≤ mY)); clear fA; clear fz; clear HK; clear HB; have fA := n0_; have fz := n1_; have HK := n2_; have HB := n3_; have iu := n4_; have C0 := n5_; have C7 := n6_; clear n0_ n1_ n2_ n3_ n4_ n5_ n6_; clear hb hbox hg; have jw : w6.cell? ⟨mY, 0, none⟩ = some (.int .i64 a0_0) := (ai iu.out 0).trans rfl; have jv : w6.cell? ⟨mY, 1, none⟩ = some (.int .i64 a0_1) := (ai iu.out 1).trans rfl; have lh : w6.cell? ⟨mY, 2, none⟩ = some (.slice Ao4 l0_2.length co4) := (ai iu.out 2).trans rfl; have lg : w6.cell? ⟨mY, 3, none⟩ = some (.slice Ao5 l0_3.length co5) := (ai iu.out 3).trans rfl; have vd : w6.cell? ⟨mY, 4, none⟩ = some (.int .i64 a0_4) := (ai iu.out 4).trans rfl; have vc : w6.cell? ⟨mY, 5, none⟩ = some (.bool a0_5) := (ai iu.out 5).trans rfl; have zc : w6.cell? ⟨mY, 6, none⟩ = some (.int .i64 a0_6) := (ai iu.out 6).trans rfl; have ju := aj iu.out 0; have jt := aj iu.out 1; have k7 := aj iu.out 2; have k6 := aj iu.out 3; have u6 := aj iu.out 4; have u4 := aj iu.out 5; have zb := aj iu.out 6) | ((with_reducible refine az (f := 16) rfl ?_); refine bH (some 8) rfl rfl Tryz.func16 (by kernel_rfl) rfl #[.agg #[.int .i64 a0_0, .int .i64 a0_1, .slice Ao4 l0_2.length co4, .slice Ao5 l0_3.length co5], .int .i64 a1] rfl (by (try simp only [List.map_toArray, List.map_cons, List.map_nil]); first | done | rfl | (simp only [List.length_drop, List.length_take]; rfl)) ?_; (with_reducible refine (dI.calls k a0_0 a0_1 (fun k_ => some k_ = (.slice Ao4 l0_2.length co4 : Value).ownBlock) (.slice Ao4 l0_2.length co4) l0_2 (fun k_ => some k_ = (.slice Ao5 l0_3.length co5 : Value).ownBlock) (.slice Ao5 l0_3.length co5) l0_3 a1 t460 t461 t462 w0 _ ?side1 ?side2 ?side3 ?side4 ?side5 A3.out).mono ?_); (case side1 => repeat (first | (with_reducible first | exact HB.out | apply ag | apply af | apply ah | refine ak ?_ C7.out) | exact HB.out)); (case side2 => exact Kd.jY rfl fA.out); (case side3 => exact fun k_ e_ => (fA.out.1 k_ e_.symm).2); (case side4 => exact Kd.jY rfl fz.out); (case side5 => exact fun k_ e_ => (fz.out.1 k_ e_.symm).2); rintro e w8 ⟨rfl, hy0, hy1, hb, hkp⟩; refine ⟨_, rfl, ?_⟩; have n0_ := aa.mk (Kd.tl rfl hy0 (fun k_ e_ => fA.out.1 k_ e_)); have n1_ := aa.mk (Kd.tl rfl hy1 (fun k_ e_ => fz.out.1 k_ e_)); have n2_ := aa.mk (il (by (with_reducible repeat (first | refine al ?_ _ | refine ao ?_ | refine an ?_ _)); exact iu.out) hkp (fun hs_ => Or.elim hs_ (fun e_ => (fun e_ => (Kd.jC fA.out iu.out (by decide)) e_) e_) (fun e_ => (fun e_ => (Kd.jC fz.out iu.out (by decide)) e_) e_))); have n3_ := aa.mk (Kept.tt (S := (fun k_ => P0_2_ k_ ∨ P0_3_ k_)) (by repeat (first | (with_reducible first | exact HK.out | apply Kept.alloc | apply Kept.drewN | apply Kept.drew | refine Kept.setCell ?_ (.inr C0.out) _) | exact HK.out)) hkp (fun k_ hs_ => Or.elim hs_ (fun e_ => (fun e_ => (fA.out.1 k_ e_.symm).1) e_) (fun e_ => (fun e_ => (fz.out.1 k_ e_.symm).1) e_))); have n4_ := aa.mk (hb); clear fA; clear fz; clear iu; clear HK; clear HB; have fA := n0_; have fz := n1_; have iu := n2_; have HK := n3_; have HB := n4_; clear n0_ n1_ n2_ n3_ n4_; (try clear hb); (try clear hkp); (try clear hy0); (try clear hy1)))
 go_ret
 exact ⟨by first | rfl | (simp [av, au] <;> rfl) | (simp [*, av, au] <;> rfl), by (with_reducible repeat (first | apply Kd.aH | apply Kd.aG | apply Kd.aV)); exact Kd.bT fA.out (fun _ hk => hk.1), by (with_reducible repeat (first | apply Kd.aH | apply Kd.aG | apply Kd.aV)); exact Kd.bT fz.out (fun _ hk => hk.1), by repeat (first | (with_reducible first | exact HB.out | apply ag | apply af | apply ah | refine ak ?_ C7.out) | exact HB.out), by repeat (first | (with_reducible first | exact HK.out | apply Kept.alloc | apply Kept.drewN | apply Kept.drew | refine Kept.setCell ?_ (.inr C0.out) _) | exact HK.out)⟩
end Go.Proofs.YtmjlmloomkodpaaGreatDoor.PA
namespace Go.Proofs.YtmjlmloomkodpaaGreatDoor.PA
open Go.RowKit Go.Proofs.ae.aw Go.Proofs.ae.aJ Go.Proofs.ae.aN
attribute [local go_sem] bm bh bA bz a6 aZ bj bf
set_option linter.unusedVariables false
set_option linter.unusedSimpArgs false
def cd.l0 : Nat → List Int → Int → Int → Option (Int)
 | 0, _, _, _ => none
 | k + 1, x0, x1, x5 => if x5 < (x0.length : Int) then (if 0 ≤ x5 then (if (rd x0 x5) = x1 then (cd.l0 k x0 (wrap64 (x1 + 1)) (wrap64 (x5 + 1))) else (some (-1))) else (none)) else (some x1)
def cd.f (k : Nat) (l0 : List Int) (a1 : Int) : Option (Int) := cd.l0 k l0 a1 0
set_option maxHeartbeats 8000000 in
set_option maxRecDepth 100000 in
theorem cd.calls (k : Nat) (A0 : Option Addr) (c0 : Nat) (l0 : List Int) (a1 : Int) (r : Int) (w : World) (hr0 : Kd.C (Kd.int .i64) w A0 l0.length l0) (hc0 : l0.length ≤ c0) (h : cd.f k l0 a1 = some r) :
  Calls Tryz.prog 44 #[.slice A0 l0.length c0, .int .i64 a1] w fun e w' => e = .returned (.int .i64 r) ∧ aK w w' := by
 have HR0 := aa.mk hr0
 have HC0 := aa.mk hc0
 clear hr0 hc0
 have H : (cd.l0 k l0 a1 0) = some r := h
 clear h
 have H' := aa.mk H
 clear H
 go_enter Tryz.func44, Tryz.ntmps44
 go_wp2
 go_loopg [1, 5] k (fun kq v1 v5 w' => ∃ (x1_1 : Int) (x5_1 : Int), v1 = .int .i64 x1_1 ∧ v5 = .int .i64 x5_1 ∧ aa (cd.l0 kq l0 x1_1 x5_1 = some r) ∧ aa (kq ≤ k) ∧ aK w w')
 case atStart => exact ⟨(a1), (0), (by first | rfl | (simp; done) | (simp [*]; done)), (by first | rfl | (simp; done) | (simp [*]; done)), H', ⟨Nat.le_refl _⟩, by repeat (first | exact aK.refl _ | apply aK.step)⟩
 case round =>
  clear H'
  try clear p2
  obtain ⟨x1_1, x5_1, rfl, rfl, HA, HK1, ⟨m1, rfl⟩⟩ := hrel
  cases gk with
  | zero => exact absurd HA.out (by simp [cd.l0])
  | succ k1 =>
   have H := HA.out
   clear HA
   simp only [cd.l0] at H
   by_cases c3 : x5_1 < (l0.length : Int)
   ·rw [if_pos c3] at H
    have c3b0 : decide (x5_1 < (l0.length : Int)) = true := decide_eq_true c3
    clear c3
    by_cases c4 : 0 ≤ x5_1
    ·rw [if_pos c4] at H
     have c4b0 : decide (0 ≤ x5_1) = true := decide_eq_true c4
     clear c4
     by_cases c5 : (rd l0 x5_1) = x1_1
     ·rw [if_pos c5] at H
      have c5b0 : ((rd l0 x5_1) == x1_1) = true := beq_iff_eq.mpr c5
      have c5b1 : ((rd l0 x5_1) != x1_1) = false := bne_eq_false_iff_eq.mpr c5
      clear c5
      have H' := aa.mk H
      clear H
      have p399 : 0 ≤ (x5_1 : Int) := of_decide_eq_true (by first | (with_reducible assumption) | assumption)
      have q399 : x5_1 < (l0.length : Int) := of_decide_eq_true (by first | (with_reducible assumption) | assumption)
      obtain ⟨ad399, e399, AY⟩ := Kd.dr HR0.out x5_1 p399 q399
      cases e399
      replace p399 := eq_true p399
      replace q399 := eq_true q399
      go_wp2
      go_roundg k1
      case measure => have := HK1.out; omega
      case rel => exact ⟨(wrap64 (x1_1 + 1)), (wrap64 (x5_1 + 1)), (by first | rfl | (simp; done) | (simp [*]; done)), (by first | rfl | (simp; done) | (simp [*]; done)), H', ⟨by have := HK1.out; omega⟩, by repeat (first | exact aK.refl _ | apply aK.step)⟩
     ·rw [if_neg c5] at H
      have c5b0 : ((rd l0 x5_1) == x1_1) = false := beq_eq_false_iff_ne.mpr c5
      have c5b1 : ((rd l0 x5_1) != x1_1) = true := bne_iff_ne.mpr c5
      obtain rfl := Option.some.inj H
      have p399 : 0 ≤ (x5_1 : Int) := of_decide_eq_true (by first | (with_reducible assumption) | assumption)
      have q399 : x5_1 < (l0.length : Int) := of_decide_eq_true (by first | (with_reducible assumption) | assumption)
      obtain ⟨ad399, e399, AY⟩ := Kd.dr HR0.out x5_1 p399 q399
      cases e399
      replace p399 := eq_true p399
      replace q399 := eq_true q399
      go_wp2
      go_ret
      exact ⟨by first | rfl | (simp; done) | (simp [*]; done), by repeat (first | exact aK.refl _ | apply aK.step)⟩
    ·rw [if_neg c4] at H
     exact absurd H (by simp)
   ·rw [if_neg c3] at H
    have c3b0 : decide (x5_1 < (l0.length : Int)) = false := decide_eq_false c3
    clear c3
    obtain rfl := Option.some.inj H
    go_wp2
    go_ret
    exact ⟨by first | rfl | (simp; done) | (simp [*]; done), by repeat (first | exact aK.refl _ | apply aK.step)⟩
end Go.Proofs.YtmjlmloomkodpaaGreatDoor.PA
namespace Go.Proofs.YtmjlmloomkodpaaGreatDoor.PA
open Go.RowKit Go.Proofs.ae.aw Go.Proofs.ae.aJ Go.Proofs.ae.aN
attribute [local go_sem] bm bh bA bz a6 aZ bj bf
set_option linter.unusedVariables false
set_option linter.unusedSimpArgs false
def eB.f (k : Nat) (a0_0 : Int) (a0_1 : Int) (l0_2 : List Int) (l0_3 : List Int) (a1 : Int) : Option (Int) := (cd.f k l0_2 a1).bind fun t401 => (if t401 < 0 then (some (-1)) else ((cd.f k l0_3 t401).bind fun t402 => (if t402 < 0 then (some (-1)) else (some t402))))
set_option maxHeartbeats 8000000 in
set_option maxRecDepth 100000 in
theorem eB.calls (k : Nat) (a0_0 : Int) (a0_1 : Int) (A0_2 : Option Addr) (c0_2 : Nat) (l0_2 : List Int) (A0_3 : Option Addr) (c0_3 : Nat) (l0_3 : List Int) (a1 : Int) (r : Int) (w : World) (b0 : Kd.C (Kd.int .i64) w A0_2 l0_2.length l0_2) (bW : l0_2.length ≤ c0_2) (bZ : Kd.C (Kd.int .i64) w A0_3 l0_3.length l0_3) (bV : l0_3.length ≤ c0_3) (h : eB.f k a0_0 a0_1 l0_2 l0_3 a1 = some r) :
  Calls Tryz.prog 17 #[.agg #[.int .i64 a0_0, .int .i64 a0_1, .slice A0_2 l0_2.length c0_2, .slice A0_3 l0_3.length c0_3], .int .i64 a1] w fun e w' => e = .returned (.int .i64 r) ∧ Below w.heap.size w w' := by
 have hu28 := Tryz.underlying28
 have cy := aa.mk b0
 have cD := aa.mk bW
 clear b0 bW
 have cG := aa.mk bZ
 have cJ := aa.mk bV
 clear bZ bV
 have HB := aa.mk (Below.refl w.heap.size w)
 have H : ((cd.f k l0_2 a1).bind fun t401 => (if t401 < 0 then (some (-1)) else ((cd.f k l0_3 t401).bind fun t402 => (if t402 < 0 then (some (-1)) else (some t402))))) = some r := h
 clear h
 replace H := Option.bind_eq_some_iff.mp H
 obtain ⟨t401, A30, H⟩ := H
 replace H : (if t401 < 0 then (some (-1)) else ((cd.f k l0_3 t401).bind fun t402 => (if t402 < 0 then (some (-1)) else (some t402)))) = some r := H
 have A3 := aa.mk A30
 clear A30
 by_cases c4 : t401 < 0
 ·rw [if_pos c4] at H
  have c4b0 : decide (t401 < 0) = true := decide_eq_true c4
  clear c4
  obtain rfl := Option.some.inj H
  go_enter Tryz.func17, Tryz.ntmps17
  go_wp2_with (first | ((with_reducible refine aQ (N := 2) rfl ?_); refine aM ?hg (N := 2) ?hd (cs := #[.int .i64 a0_0, .int .i64 a0_1, .slice A0_2 l0_2.length c0_2, .slice A0_3 l0_3.length c0_3]) (t := 28) ?hr ?_; (case hd => rfl); (case hg => rfl); (case hr => first | (go_simp; done) | (go_simp; rfl)); intro gS hg w5 hbox hb; have n0_ := aa.mk (ar (by repeat (first | (with_reducible first | exact HB.out | apply ag | apply af | apply ah) | exact HB.out)) hb); have n1_ := aa.mk (hbox); have n2_ := aa.mk ((by rw [hg]; exact (aq (by repeat (first | (with_reducible first | exact HB.out | apply ag | apply af | apply ah) | exact HB.out))) : w.heap.size ≤ gS)); have n3_ := aa.mk ((by rw [hg]; exact (aq (by repeat (first | (with_reducible first | exact HB.out | apply ag | apply af | apply ah) | exact HB.out))) : w.heap.size ≤ gS)); clear HB; have HB := n0_; have fJ := n1_; have C3 := n2_; have qj := n3_; clear n0_ n1_ n2_ n3_; clear hb hbox hg; have sE : w5.cell? ⟨gS, 0, none⟩ = some (.int .i64 a0_0) := (ai fJ.out 0).trans rfl; have sD : w5.cell? ⟨gS, 1, none⟩ = some (.int .i64 a0_1) := (ai fJ.out 1).trans rfl; have vf : w5.cell? ⟨gS, 2, none⟩ = some (.slice A0_2 l0_2.length c0_2) := (ai fJ.out 2).trans rfl; have ve : w5.cell? ⟨gS, 3, none⟩ = some (.slice A0_3 l0_3.length c0_3) := (ai fJ.out 3).trans rfl; have rX := aj fJ.out 0; have rV := aj fJ.out 1; have u9 := aj fJ.out 2; have u7 := aj fJ.out 3) | ((with_reducible refine az (f := 44) rfl ?_); refine bH (some 8) rfl rfl Tryz.func44 (by kernel_rfl) rfl #[.slice A0_2 l0_2.length c0_2, .int .i64 a1] rfl (by (try simp only [List.map_toArray, List.map_cons, List.map_nil]); first | done | rfl | (simp only [List.length_drop, List.length_take]; rfl)) ?_; (with_reducible refine (cd.calls k _ _ l0_2 a1 t401 _ ?side1 ?side2 A3.out).mono ?_); (case side1 => repeat (first | exact (Kd.ay cy.out HB.out) | (with_reducible refine Kd.aX ?_ _) | (with_reducible refine Kd.aW ?_ _) | (with_reducible refine Kd.bn ?_))); (case side2 => exact cD.out); rintro e w' ⟨rfl, ⟨nd, rfl⟩⟩; refine ⟨_, rfl, ?_⟩))
  go_ret
  exact ⟨by first | rfl | (simp [av, au] <;> rfl) | (simp [*, av, au] <;> rfl), by repeat (first | (with_reducible first | exact HB.out | apply ag | apply af | apply ah | refine ak ?_ qj.out) | exact HB.out)⟩
 ·rw [if_neg c4] at H
  have c4b0 : decide (t401 < 0) = false := decide_eq_false c4
  clear c4
  replace H := Option.bind_eq_some_iff.mp H
  obtain ⟨t402, A70, H⟩ := H
  replace H : (if t402 < 0 then (some (-1)) else (some t402)) = some r := H
  have A7 := aa.mk A70
  clear A70
  by_cases c8 : t402 < 0
  ·rw [if_pos c8] at H
   have c8b0 : decide (t402 < 0) = true := decide_eq_true c8
   clear c8
   obtain rfl := Option.some.inj H
   go_enter Tryz.func17, Tryz.ntmps17
   go_wp2_with (first | ((with_reducible refine aQ (N := 2) rfl ?_); refine aM ?hg (N := 2) ?hd (cs := #[.int .i64 a0_0, .int .i64 a0_1, .slice A0_2 l0_2.length c0_2, .slice A0_3 l0_3.length c0_3]) (t := 28) ?hr ?_; (case hd => rfl); (case hg => rfl); (case hr => first | (go_simp; done) | (go_simp; rfl)); intro gS hg w9 hbox hb; have n0_ := aa.mk (ar (by repeat (first | (with_reducible first | exact HB.out | apply ag | apply af | apply ah) | exact HB.out)) hb); have n1_ := aa.mk (hbox); have n2_ := aa.mk ((by rw [hg]; exact (aq (by repeat (first | (with_reducible first | exact HB.out | apply ag | apply af | apply ah) | exact HB.out))) : w.heap.size ≤ gS)); have n3_ := aa.mk ((by rw [hg]; exact (aq (by repeat (first | (with_reducible first | exact HB.out | apply ag | apply af | apply ah) | exact HB.out))) : w.heap.size ≤ gS)); clear HB; have HB := n0_; have fJ := n1_; have C3 := n2_; have qj := n3_; clear n0_ n1_ n2_ n3_; clear hb hbox hg; have jS : w9.cell? ⟨gS, 0, none⟩ = some (.int .i64 a0_0) := (ai fJ.out 0).trans rfl; have jR : w9.cell? ⟨gS, 1, none⟩ = some (.int .i64 a0_1) := (ai fJ.out 1).trans rfl; have jQ : w9.cell? ⟨gS, 2, none⟩ = some (.slice A0_2 l0_2.length c0_2) := (ai fJ.out 2).trans rfl; have jP : w9.cell? ⟨gS, 3, none⟩ = some (.slice A0_3 l0_3.length c0_3) := (ai fJ.out 3).trans rfl; have jO := aj fJ.out 0; have jN := aj fJ.out 1; have jM := aj fJ.out 2; have jL := aj fJ.out 3) | ((with_reducible refine az (f := 44) rfl ?_); refine bH (some 8) rfl rfl Tryz.func44 (by kernel_rfl) rfl #[.slice A0_2 l0_2.length c0_2, .int .i64 a1] rfl (by (try simp only [List.map_toArray, List.map_cons, List.map_nil]); first | done | rfl | (simp only [List.length_drop, List.length_take]; rfl)) ?_; (with_reducible refine (cd.calls k _ _ l0_2 a1 t401 _ ?side1 ?side2 A3.out).mono ?_); (case side1 => repeat (first | exact (Kd.ay cy.out HB.out) | (with_reducible refine Kd.aX ?_ _) | (with_reducible refine Kd.aW ?_ _) | (with_reducible refine Kd.bn ?_))); (case side2 => exact cD.out); rintro e w' ⟨rfl, ⟨nd, rfl⟩⟩; refine ⟨_, rfl, ?_⟩) | ((with_reducible refine az (f := 44) rfl ?_); refine bH (some 14) rfl rfl Tryz.func44 (by kernel_rfl) rfl #[.slice A0_3 l0_3.length c0_3, .int .i64 t401] rfl (by (try simp only [List.map_toArray, List.map_cons, List.map_nil]); first | done | rfl | (simp only [List.length_drop, List.length_take]; rfl)) ?_; (with_reducible refine (cd.calls k _ _ l0_3 t401 t402 _ ?side1 ?side2 A7.out).mono ?_); (case side1 => repeat (first | exact (Kd.ay cG.out (by repeat (first | (with_reducible first | exact HB.out | apply ag | apply af | apply ah | refine ak ?_ qj.out) | exact HB.out))) | (with_reducible refine Kd.aX ?_ _) | (with_reducible refine Kd.aW ?_ _) | (with_reducible refine Kd.bn ?_))); (case side2 => exact cJ.out); rintro e w' ⟨rfl, ⟨nd, rfl⟩⟩; refine ⟨_, rfl, ?_⟩))
   go_ret
   exact ⟨by first | rfl | (simp [av, au] <;> rfl) | (simp [*, av, au] <;> rfl), by repeat (first | (with_reducible first | exact HB.out | apply ag | apply af | apply ah | refine ak ?_ qj.out) | exact HB.out)⟩
  ·rw [if_neg c8] at H
   have c8b0 : decide (t402 < 0) = false := decide_eq_false c8
   clear c8
   obtain rfl := Option.some.inj H
   go_enter Tryz.func17, Tryz.ntmps17
   go_wp2_with (first | ((with_reducible refine aQ (N := 2) rfl ?_); refine aM ?hg (N := 2) ?hd (cs := #[.int .i64 a0_0, .int .i64 a0_1, .slice A0_2 l0_2.length c0_2, .slice A0_3 l0_3.length c0_3]) (t := 28) ?hr ?_; (case hd => rfl); (case hg => rfl); (case hr => first | (go_simp; done) | (go_simp; rfl)); intro gS hg w11 hbox hb; have n0_ := aa.mk (ar (by repeat (first | (with_reducible first | exact HB.out | apply ag | apply af | apply ah) | exact HB.out)) hb); have n1_ := aa.mk (hbox); have n2_ := aa.mk ((by rw [hg]; exact (aq (by repeat (first | (with_reducible first | exact HB.out | apply ag | apply af | apply ah) | exact HB.out))) : w.heap.size ≤ gS)); have n3_ := aa.mk ((by rw [hg]; exact (aq (by repeat (first | (with_reducible first | exact HB.out | apply ag | apply af | apply ah) | exact HB.out))) : w.heap.size ≤ gS)); clear HB; have HB := n0_; have fJ := n1_; have C3 := n2_; have qj := n3_; clear n0_ n1_ n2_ n3_; clear hb hbox hg; have iM : w11.cell? ⟨gS, 0, none⟩ = some (.int .i64 a0_0) := (ai fJ.out 0).trans rfl; have iL : w11.cell? ⟨gS, 1, none⟩ = some (.int .i64 a0_1) := (ai fJ.out 1).trans rfl; have iK : w11.cell? ⟨gS, 2, none⟩ = some (.slice A0_2 l0_2.length c0_2) := (ai fJ.out 2).trans rfl; have iJ : w11.cell? ⟨gS, 3, none⟩ = some (.slice A0_3 l0_3.length c0_3) := (ai fJ.out 3).trans rfl; have iI := aj fJ.out 0; have iH := aj fJ.out 1; have iG := aj fJ.out 2; have iE := aj fJ.out 3) | ((with_reducible refine az (f := 44) rfl ?_); refine bH (some 8) rfl rfl Tryz.func44 (by kernel_rfl) rfl #[.slice A0_2 l0_2.length c0_2, .int .i64 a1] rfl (by (try simp only [List.map_toArray, List.map_cons, List.map_nil]); first | done | rfl | (simp only [List.length_drop, List.length_take]; rfl)) ?_; (with_reducible refine (cd.calls k _ _ l0_2 a1 t401 _ ?side1 ?side2 A3.out).mono ?_); (case side1 => repeat (first | exact (Kd.ay cy.out HB.out) | (with_reducible refine Kd.aX ?_ _) | (with_reducible refine Kd.aW ?_ _) | (with_reducible refine Kd.bn ?_))); (case side2 => exact cD.out); rintro e w' ⟨rfl, ⟨nd, rfl⟩⟩; refine ⟨_, rfl, ?_⟩) | ((with_reducible refine az (f := 44) rfl ?_); refine bH (some 14) rfl rfl Tryz.func44 (by kernel_rfl) rfl #[.slice A0_3 l0_3.length c0_3, .int .i64 t401] rfl (by (try simp only [List.map_toArray, List.map_cons, List.map_nil]); first | done | rfl | (simp only [List.length_drop, List.length_take]; rfl)) ?_; (with_reducible refine (cd.calls k _ _ l0_3 t401 t402 _ ?side1 ?side2 A7.out).mono ?_); (case side1 => repeat (first | exact (Kd.ay cG.out (by repeat (first | (with_reducible first | exact HB.out | apply ag | apply af | apply ah | refine ak ?_ qj.out) | exact HB.out))) | (with_reducible refine Kd.aX ?_ _) | (with_reducible refine Kd.aW ?_ _) | (with_reducible refine Kd.bn ?_))); (case side2 => exact cJ.out); rintro e w' ⟨rfl, ⟨nd, rfl⟩⟩; refine ⟨_, rfl, ?_⟩))
   go_ret
   exact ⟨by first | rfl | (simp [av, au] <;> rfl) | (simp [*, av, au] <;> rfl), by repeat (first | (with_reducible first | exact HB.out | apply ag | apply af | apply ah | refine ak ?_ qj.out) | exact HB.out)⟩
end Go.Proofs.YtmjlmloomkodpaaGreatDoor.PA
namespace Go.Proofs.YtmjlmloomkodpaaGreatDoor.PA
open Go.RowKit Go.Proofs.ae.aw Go.Proofs.ae.aJ Go.Proofs.ae.aN
attribute [local go_sem] bm bh bA bz a6 aZ bj bf
set_option linter.unusedVariables false
set_option linter.unusedSimpArgs false
mutual
def br.j0 : Nat → List Int → Bool → Option (List Int)
 | 0, _, _ => none
 | k + 1, x0, x13 => if x13 = true then (some ([] : List Int)) else ((cq.f (x0.length : Int)).bind fun t418 => (if 0 ≤ (wrap64 ((x0.length : Int) + t418)) then (if (wrap64 ((x0.length : Int) + t418) : Int).toNat ≤ 35184372088832 then (br.l0 k x0 (List.replicate (wrap64 ((x0.length : Int) + t418) : Int).toNat 0) 0) else (none)) else (none)))
def br.l0 : Nat → List Int → List Int → Int → Option (List Int)
 | 0, _, _, _ => none
 | k + 1, x0, x5, x6 => if x6 < (x0.length : Int) then (if 0 ≤ x6 then (if x6 < (x5.length : Int) then (br.l0 k x0 (x5.set (x6 : Int).toNat (rd x0 x6)) (wrap64 (x6 + 1))) else (none)) else (none)) else (br.l1 k x0 x5 (x0.length : Int))
def br.l1 : Nat → List Int → List Int → Int → Option (List Int)
 | 0, _, _, _ => none
 | k + 1, x0, x5, x7 => if x7 < (x5.length : Int) then (if 0 ≤ x7 then (br.l1 k x0 (x5.set (x7 : Int).toNat (-7000000000000000101)) (wrap64 (x7 + 1))) else (none)) else (if 0 ≤ (x0.length : Int) then (if (x0.length : Int) ≤ (x5.length : Int) then (some (x5.take ((x0.length : Int) : Int).toNat)) else (none)) else (none))
end
def br.f (k : Nat) (l0 : List Int) (a1 : Bool) : Option (List Int) := if a1 = true then (br.j0 k l0 ((l0.length : Int) == 0)) else (br.j0 k l0 false)
set_option maxHeartbeats 8000000 in
set_option maxRecDepth 100000 in
theorem br.calls (k : Nat) (A0 : Option Addr) (c0 : Nat) (l0 : List Int) (a1 : Bool) (r : List Int) (w : World) (hr0 : Kd.C (Kd.int .i64) w A0 l0.length l0) (hc0 : l0.length ≤ c0) (h : br.f k l0 a1 = some r) :
  Calls Tryz.prog 66 #[.slice A0 l0.length c0, .bool a1] w fun e w' => ∃ v0_ : Value, e = .returned (v0_) ∧ Kd.R (Kd.int .i64) 3 w' w.heap.size (fun _ => True) v0_ r ∧ Below w.heap.size w w' := by
 have HR0 := aa.mk hr0
 have HC0 := aa.mk hc0
 clear hr0 hc0
 have HB := aa.mk (Below.refl w.heap.size w)
 have H : (if a1 = true then (br.j0 k l0 ((l0.length : Int) == 0)) else (br.j0 k l0 false)) = some r := h
 clear h
 have HC3 := aa.mk H
 clear H
 go_enter Tryz.func66, Tryz.ntmps66
 go_upto_region 1 with (fail)
 go_cut [13] (fun v13 wc => ∃ (kq : Nat) (x13_2 : Bool), v13 = .bool x13_2 ∧ aa (br.j0 kq l0 x13_2 = some r) ∧ aa (kq ≤ k) ∧ aa (Below w.heap.size w wc))
 case first =>
  have H := HC3.out
  clear HC3
  by_cases c4 : a1 = true
  ·subst c4
   have H1 : (br.j0 k l0 ((l0.length : Int) == 0)) = some r := by rw [if_pos rfl] at H; exact H
   clear H
   have H := H1
   clear H1
   have H' := aa.mk H
   clear H
   go_wp2
   go_meet
   case rel => exact ⟨_, (((l0.length : Int) == 0)), (by first | rfl | (simp; done) | (simp [*]; done)), H', ⟨by first | omega | exact Nat.le_refl _⟩, ⟨by repeat (first | (with_reducible first | exact HB.out | apply ag | apply af | apply ah) | exact HB.out)⟩⟩
  ·replace c4 := Bool.eq_false_iff.mpr c4
   subst c4
   have H1 : (br.j0 k l0 false) = some r := by rw [if_neg (show ¬ (false = true) by decide)] at H; exact H
   clear H
   have H := H1
   clear H1
   have H' := aa.mk H
   clear H
   go_wp2
   go_meet
   case rel => exact ⟨_, (false), (by first | rfl | (simp; done) | (simp [*]; done)), H', ⟨by first | omega | exact Nat.le_refl _⟩, ⟨by repeat (first | (with_reducible first | exact HB.out | apply ag | apply af | apply ah) | exact HB.out)⟩⟩
 case rest =>
  clear HC3
  try clear p2
  try clear c4
  obtain ⟨kq, x13_2, rfl, HA, HJ2, HB⟩ := hcut
  cases kq with
  | zero => exact absurd HA.out (by simp [br.j0])
  | succ kj2 =>
   have H := HA.out
   clear HA
   simp only [br.j0] at H
   by_cases c5 : x13_2 = true
   ·subst c5
    have H1 : (some ([] : List Int)) = some r := by rw [if_pos rfl] at H; exact H
    clear H
    have H := H1
    clear H1
    obtain rfl := Option.some.inj H
    go_wp2
    go_ret
    exact ⟨_, by first | rfl | (simp [av, au] <;> rfl) | (simp [*, av, au] <;> rfl), by first | exact Kd.iq _ _ _ _ _ | exact Kd.mo _ _ _ _ _ | exact Kd.mj _ _ _ _ _ | exact Kd.mm _ _ _ _ _ | exact Kd.kf _ _ _ _ _, by repeat (first | (with_reducible first | exact HB.out | apply ag | apply af | apply ah) | exact HB.out)⟩
   ·replace c5 := Bool.eq_false_iff.mpr c5
    subst c5
    have H1 : ((cq.f (l0.length : Int)).bind fun t418 => (if 0 ≤ (wrap64 ((l0.length : Int) + t418)) then (if (wrap64 ((l0.length : Int) + t418) : Int).toNat ≤ 35184372088832 then (br.l0 kj2 l0 (List.replicate (wrap64 ((l0.length : Int) + t418) : Int).toNat 0) 0) else (none)) else (none))) = some r := by rw [if_neg (show ¬ (false = true) by decide)] at H; exact H
    clear H
    have H := H1
    clear H1
    replace H := Option.bind_eq_some_iff.mp H
    obtain ⟨t418, A60, H⟩ := H
    replace H : (if 0 ≤ (wrap64 ((l0.length : Int) + t418)) then (if (wrap64 ((l0.length : Int) + t418) : Int).toNat ≤ 35184372088832 then (br.l0 kj2 l0 (List.replicate (wrap64 ((l0.length : Int) + t418) : Int).toNat 0) 0) else (none)) else (none)) = some r := H
    have A6 := aa.mk A60
    clear A60
    obtain ⟨ji7, hji7⟩ : ∃ j_ : Int, (wrap64 ((l0.length : Int) + t418)) = j_ := ⟨_, rfl⟩
    replace H : (if 0 ≤ (ji7) then (if (ji7 : Int).toNat ≤ 35184372088832 then (br.l0 kj2 l0 (List.replicate (ji7 : Int).toNat 0) 0) else (none)) else (none)) = some r := by first | (rw [hji7] at H; exact H) | (simp only [hji7] at H ⊢; exact H)
    (try rw [hji7] at A6)
    have hji7w : (IntKind.i64.wrap ((l0.length : Int) + t418)) = ji7 := (bd _).trans hji7
    by_cases c8 : 0 ≤ (ji7)
    ·rw [if_pos c8] at H
     have c8b0 := eq_true c8
     have c8b1 : decide (0 ≤ (ji7)) = true := decide_eq_true c8
     clear c8
     by_cases c9 : (ji7 : Int).toNat ≤ 35184372088832
     ·rw [if_pos c9] at H
      have c9b0 := eq_true c9
      have c9b1 : decide ((ji7 : Int).toNat ≤ 35184372088832) = true := decide_eq_true c9
      clear c9
      obtain ⟨y419, hy419⟩ : ∃ y_ : List Int, y_ = (List.replicate (ji7 : Int).toNat 0) := ⟨_, rfl⟩
      replace H : (br.l0 kj2 l0 y419 0) = some r := by first | (rw [hy419]; with_reducible exact H) | (have H2_ := (Option.bind_some _ _).symm.trans H; rw [hy419]; with_reducible exact H2_) | (have H2_ := (Option.bind_some _ _).symm.trans H; with_reducible exact H2_) | with_reducible exact H | (rw [hy419]; exact H) | exact H
      have Ny419 := aa.mk hy419
      clear hy419
      have H' := aa.mk H
      clear H
      go_wp2_with (first | ((with_reducible refine az (f := 104) rfl ?_); refine bH (some 18) rfl rfl Tryz.func104 (by kernel_rfl) rfl #[.int .i64 (l0.length : Int)] rfl (by (try simp only [List.map_toArray, List.map_cons, List.map_nil]); first | done | rfl | (simp only [List.length_drop, List.length_take]; rfl)) ?_; (with_reducible refine (cq.calls (l0.length : Int) t418 _ A6.out).mono ?_); rintro e w' ⟨rfl, ⟨nd, rfl⟩⟩; refine ⟨_, rfl, ?_⟩) | ((with_reducible refine aQ (N := 20) rfl ?_); (try (refine kI (by rfl) ?_; dsimp only)); refine Kd.zI (Kd.int .i64) _ 3 rfl (N := 20) rfl 22 _ _ rfl ji7 rfl rfl Tryz.underlying22 (.int .i64 0) 8 iV rfl (by decide) (by omega) 0 (ok := fun _ => True) (okp := fun _ => True) rfl (fun _ hk => hk) trivial (of_decide_eq_true (by first | (with_reducible assumption) | assumption)) (Nat.le_trans (Nat.mul_le_mul_right _ (of_decide_eq_true (by first | (with_reducible assumption) | assumption) : ji7.toNat ≤ 35184372088832)) (by omega)) (Below.refl _ _) (Nat.le_refl _) ?_; intro v420 w10 pM hb hg_ hnew_; clear hg_ hnew_; (first | rw [← Ny419.out] at pM | (simp only [Int.reduceToNat] at pM; rw [← Ny419.out] at pM)); have n0_ := aa.mk (Kd.cU pM (aq (by repeat (first | (with_reducible first | exact HB.out | apply ag | apply af | apply ah) | exact HB.out)))); have n1_ := aa.mk (ar (by repeat (first | (with_reducible first | exact HB.out | apply ag | apply af | apply ah) | exact HB.out)) hb); clear HB; have zN := n0_; have HB := n1_; clear n0_ n1_; clear hb pM))
      go_loopg [6] kj2 (fun kq v6 w' => ∃ (x5_2 : List Int) (x6_2 : Int), v6 = .int .i64 x6_2 ∧ aa (br.l0 kq l0 x5_2 x6_2 = some r) ∧ aa (kq ≤ kj2) ∧ aa (Kd.R (Kd.int .i64) 3 w' w.heap.size (fun _ => True) v420 x5_2) ∧ aa (Below w.heap.size w w'))
      case atStart => exact ⟨(y419), (0), (by first | rfl | (simp; done) | (simp [*]; done)), H', ⟨Nat.le_refl _⟩, ⟨by (with_reducible repeat (first | apply Kd.aH | apply Kd.aG | apply Kd.aV)); exact zN.out⟩, ⟨by repeat (first | (with_reducible first | exact HB.out | apply ag | apply af | apply ah) | exact HB.out)⟩⟩
      case round =>
       clear H'
       try clear c1
       try clear p2
       try clear c4
       try clear c5
       try clear c6
       try clear p6
       try clear c8
       try clear c8b0
       try clear c8b1
       try clear c9
       try clear c9b0
       try clear c9b1
       try clear c10
       try clear p2
       obtain ⟨x5_2, x6_2, rfl, HA, HK2, en, HB⟩ := hrel
       cases gk with
       | zero => exact absurd HA.out (by simp [br.l0])
       | succ k2 =>
        have H := HA.out
        clear HA
        simp only [br.l0] at H
        by_cases c12 : x6_2 < (l0.length : Int)
        ·rw [if_pos c12] at H
         have c12b0 : decide (x6_2 < (l0.length : Int)) = true := decide_eq_true c12
         clear c12
         by_cases c13 : 0 ≤ x6_2
         ·rw [if_pos c13] at H
          have c13b0 : decide (0 ≤ x6_2) = true := decide_eq_true c13
          clear c13
          by_cases c14 : x6_2 < (x5_2.length : Int)
          ·rw [if_pos c14] at H
           have c14b0 : decide (x6_2 < (x5_2.length : Int)) = true := decide_eq_true c14
           clear c14
           obtain ⟨y423, hy423⟩ : ∃ y_ : List Int, y_ = (x5_2.set (x6_2 : Int).toNat (rd l0 x6_2)) := ⟨_, rfl⟩
           replace H : (br.l0 k2 l0 y423 (wrap64 (x6_2 + 1))) = some r := by first | (rw [hy423]; with_reducible exact H) | (have H2_ := (Option.bind_some _ _).symm.trans H; rw [hy423]; with_reducible exact H2_) | (have H2_ := (Option.bind_some _ _).symm.trans H; with_reducible exact H2_) | with_reducible exact H | (rw [hy423]; exact H) | exact H
           have Ny423 := aa.mk hy423
           clear hy423
           have H' := aa.mk H
           clear H
           have p422 : 0 ≤ (x6_2 : Int) := of_decide_eq_true (by first | (with_reducible assumption) | assumption)
           have q422 : x6_2 < (l0.length : Int) := of_decide_eq_true (by first | (with_reducible assumption) | assumption)
           obtain ⟨ad422, e422, ji⟩ := Kd.dr HR0.out x6_2 p422 q422
           cases e422
           replace ji := (HB.out.cell (World.block_lt_of_cell? w _ ji)).trans ji
           replace p422 := eq_true p422
           replace q422 := eq_true q422
           have p15 : 0 ≤ (x6_2 : Int) := of_decide_eq_true (by first | (with_reducible assumption) | assumption)
           have q15 : (x6_2 : Int) < ((x5_2.length : Int) : Int) := of_decide_eq_true (by first | (with_reducible assumption) | assumption)
           obtain ⟨go15, pU, ta, zi, gl15, cl15, zQ⟩ := Kd.nM en.out (by omega)
           (first | cases ta | (injection ta with ea_ en_ ec_; (first | subst ea_ | (injection ea_ with ea_; subst ea_)); subst ec_; clear en_))
           have GB15 := aa.mk zi
           have GG15 := aa.mk zQ
           clear zi gl15 zQ
           obtain ⟨u0, hf15_0⟩ := Kd.nm 0 en.out (x6_2 : Int) p15 q15
           replace p15 := eq_true p15
           replace q15 := eq_true q15
           have vC := Kd.qb en.out (x6_2 : Int) (rd l0 x6_2)
           go_wp2_with (first | ((with_reducible refine jz (t := 3) (p := 33) rfl ?_); refine iU (t := 3) (p := 33) (v := ?vo_w17) (w1 := (wr.setCell ⟨go15, (x6_2 : Int).toNat, none⟩ (.int .i64 (rd l0 x6_2)))) ?hg ?ho ?hn ?hr ?_; (case ho => rfl); (case hg => rfl); (case hn => rfl); (case hr => first | (go_simp; done) | (go_simp; rfl)); intro w17 hw; have hg : wr.grownBy w17 (some go15) := (by rw [hw]; exact vC.2); have hp_ : Kd.R (Kd.int .i64) 3 w17 w.heap.size (fun _ => True) (.slice (some ⟨go15, 0, none⟩) x5_2.length pU) y423 := (by rw [hw, Ny423.out]; exact vC.1); clear vC; have n0_ := aa.mk (hp_); have n1_ := aa.mk ((by rw [hw]; exact ak (HB.out) GB15.out : Below w.heap.size w w17)); clear en; clear HB; have en := n0_; have HB := n1_; clear n0_ n1_; clear hg hw hp_))
           go_roundg k2
           case measure => have := HJ2.out; have := HK2.out; omega
           case rel => exact ⟨(y423), (wrap64 (x6_2 + 1)), (by first | rfl | (simp; done) | (simp [*]; done)), H', ⟨by have := HJ2.out; have := HK2.out; omega⟩, ⟨by (with_reducible repeat (first | apply Kd.aH | apply Kd.aG | apply Kd.aV)); exact en.out⟩, ⟨by repeat (first | (with_reducible first | exact HB.out | apply ag | apply af | apply ah) | exact HB.out)⟩⟩
          ·rw [if_neg c14] at H
           exact absurd H (by simp)
         ·rw [if_neg c13] at H
          exact absurd H (by simp)
        ·rw [if_neg c12] at H
         have c12b0 : decide (x6_2 < (l0.length : Int)) = false := decide_eq_false c12
         clear c12
         have H' := aa.mk H
         clear H
         go_wp2
         go_loopg [7] k2 (fun kq v7 w' => ∃ (x5_3 : List Int) (x7_3 : Int), v7 = .int .i64 x7_3 ∧ aa (br.l1 kq l0 x5_3 x7_3 = some r) ∧ aa (kq ≤ k2) ∧ aa (Kd.R (Kd.int .i64) 3 w' w.heap.size (fun _ => True) v420 x5_3) ∧ aa (Below w.heap.size w w'))
         case atStart => exact ⟨(x5_2), ((l0.length : Int)), (by first | rfl | (simp; done) | (simp [*]; done)), H', ⟨Nat.le_refl _⟩, ⟨by (with_reducible repeat (first | apply Kd.aH | apply Kd.aG | apply Kd.aV)); exact en.out⟩, ⟨by repeat (first | (with_reducible first | exact HB.out | apply ag | apply af | apply ah) | exact HB.out)⟩⟩
         case round =>
          clear H'
          try clear c1
          try clear p1
          try clear q1
          try clear hx1
          try clear p2
          try clear c4
          try clear p4
          try clear q4
          try clear hx4
          try clear c5
          try clear c6
          try clear p6
          try clear c8
          try clear c8b0
          try clear c8b1
          try clear c9
          try clear c9b0
          try clear c9b1
          try clear c10
          try clear c12
          try clear c12b0
          try clear c13
          try clear c13b0
          try clear c14
          try clear c14b0
          try clear p15
          try clear q15
          try clear hx15
          try clear hf15
          try clear u0
          try clear ji
          try clear p15
          try clear p2
          try clear p422
          try clear p6
          try clear q15
          try clear q422
          obtain ⟨x5_3, x7_3, rfl, HA, HK3, en, HB⟩ := hrel
          cases gk with
          | zero => exact absurd HA.out (by simp [br.l1])
          | succ k3 =>
           have H := HA.out
           clear HA
           simp only [br.l1] at H
           by_cases c18 : x7_3 < (x5_3.length : Int)
           ·rw [if_pos c18] at H
            have c18b0 : decide (x7_3 < (x5_3.length : Int)) = true := decide_eq_true c18
            clear c18
            by_cases c19 : 0 ≤ x7_3
            ·rw [if_pos c19] at H
             have c19b0 : decide (0 ≤ x7_3) = true := decide_eq_true c19
             clear c19
             obtain ⟨y424, hy424⟩ : ∃ y_ : List Int, y_ = (x5_3.set (x7_3 : Int).toNat (-7000000000000000101)) := ⟨_, rfl⟩
             replace H : (br.l1 k3 l0 y424 (wrap64 (x7_3 + 1))) = some r := by first | (rw [hy424]; with_reducible exact H) | (have H2_ := (Option.bind_some _ _).symm.trans H; rw [hy424]; with_reducible exact H2_) | (have H2_ := (Option.bind_some _ _).symm.trans H; with_reducible exact H2_) | with_reducible exact H | (rw [hy424]; exact H) | exact H
             have Ny424 := aa.mk hy424
             clear hy424
             have H' := aa.mk H
             clear H
             obtain ⟨qo, nI, ur⟩ := Kd.bE en.out
             subst ur
             have p20 : 0 ≤ (x7_3 : Int) := of_decide_eq_true (by first | (with_reducible assumption) | assumption)
             have q20 : (x7_3 : Int) < ((x5_3.length : Int) : Int) := of_decide_eq_true (by first | (with_reducible assumption) | assumption)
             obtain ⟨go20, zv, uu, zh, gl20, cl20, zP⟩ := Kd.nM en.out (by omega)
             (first | cases uu | (injection uu with ea_ en_ ec_; (first | subst ea_ | (injection ea_ with ea_; subst ea_)); subst ec_; clear en_))
             have GB20 := aa.mk zh
             have GG20 := aa.mk zP
             clear zh gl20 zP
             obtain ⟨Dk, hf20_0⟩ := Kd.nm 0 en.out (x7_3 : Int) p20 q20
             replace p20 := eq_true p20
             replace q20 := eq_true q20
             have vB := Kd.qb en.out (x7_3 : Int) (-7000000000000000101)
             go_wp2_with (first | ((with_reducible refine jz (t := 3) (p := 44) rfl ?_); refine iU (t := 3) (p := 44) (v := ?vo_w23) (w1 := (wr.setCell ⟨go20, (x7_3 : Int).toNat, none⟩ (.int .i64 (-7000000000000000101)))) ?hg ?ho ?hn ?hr ?_; (case ho => rfl); (case hg => rfl); (case hn => rfl); (case hr => first | (go_simp; done) | (go_simp; rfl)); intro w23 hw; have hg : wr.grownBy w23 (some go20) := (by rw [hw]; exact vB.2); have hp_ : Kd.R (Kd.int .i64) 3 w23 w.heap.size (fun _ => True) (.slice (some ⟨go20, 0, none⟩) x5_3.length nI) y424 := (by rw [hw, Ny424.out]; exact vB.1); clear vB; have n0_ := aa.mk (hp_); have n1_ := aa.mk ((by rw [hw]; exact ak (HB.out) GB20.out : Below w.heap.size w w23)); clear en; clear HB; have en := n0_; have HB := n1_; clear n0_ n1_; clear hg hw hp_))
             go_roundg k3
             case measure => have := HJ2.out; have := HK2.out; have := HK3.out; omega
             case rel => exact ⟨(y424), (wrap64 (x7_3 + 1)), (by first | rfl | (simp; done) | (simp [*]; done)), H', ⟨by have := HJ2.out; have := HK2.out; have := HK3.out; omega⟩, ⟨by (with_reducible repeat (first | apply Kd.aH | apply Kd.aG | apply Kd.aV)); exact en.out⟩, ⟨by repeat (first | (with_reducible first | exact HB.out | apply ag | apply af | apply ah) | exact HB.out)⟩⟩
            ·rw [if_neg c19] at H
             exact absurd H (by simp)
           ·rw [if_neg c18] at H
            have c18b0 : decide (x7_3 < (x5_3.length : Int)) = false := decide_eq_false c18
            clear c18
            by_cases c24 : 0 ≤ (l0.length : Int)
            ·rw [if_pos c24] at H
             have c24b0 := eq_true c24
             have c24b1 : decide (0 ≤ (l0.length : Int)) = true := decide_eq_true c24
             clear c24
             by_cases c25 : (l0.length : Int) ≤ (x5_3.length : Int)
             ·rw [if_pos c25] at H
              have c25b0 := eq_true c25
              have c25b1 : decide ((l0.length : Int) ≤ (x5_3.length : Int)) = true := decide_eq_true c25
              clear c25
              obtain ⟨y425, hy425⟩ : ∃ y_ : List Int, y_ = (x5_3.take ((l0.length : Int) : Int).toNat) := ⟨_, rfl⟩
              replace H : (some y425) = some r := by first | (rw [hy425]; with_reducible exact H) | (have H2_ := (Option.bind_some _ _).symm.trans H; rw [hy425]; with_reducible exact H2_) | (have H2_ := (Option.bind_some _ _).symm.trans H; with_reducible exact H2_) | with_reducible exact H | (rw [hy425]; exact H) | exact H
              have Ny425 := aa.mk hy425
              clear hy425
              obtain rfl := Option.some.inj H
              obtain ⟨CH, Cg, DJ⟩ := Kd.bE en.out
              subst DJ
              have q27 : ((l0.length : Int) : Int) ≤ ((x5_3.length : Int) : Int) := of_decide_eq_true (by first | (with_reducible assumption) | assumption)
              obtain ⟨i027, uh, _, hsz27, _⟩ := info_parts iV
              have vg := vu (P := Tryz.prog) 22 3 .i64 Tryz.underlying22 uh CH x5_3.length Cg (l0.length : Int) (of_decide_eq_true (by first | (with_reducible assumption) | assumption)) q27 (Kd.bX en.out).2.1
              have Bi := Kd.vy (m := ((l0.length : Int) : Int).toNat) en.out (by omega)
              have hy27 : y425.length = ((l0.length : Int) : Int).toNat := (by rw [Ny425.out, List.length_take]; omega)
              rw [← Ny425.out] at Bi
              rw [← hy27] at Bi vg
              clear hy27 uh hsz27 en
              have Fs := aa.mk Bi
              clear Bi
              replace q27 := eq_true q27
              go_wp2
              go_ret
              exact ⟨_, by first | rfl | (simp [av, au] <;> rfl) | (simp only [← hji7]; first | rfl | (simp [av, au] <;> rfl)) | (simp [*, av, au] <;> rfl), by (with_reducible repeat (first | apply Kd.aH | apply Kd.aG | apply Kd.aV)); exact Fs.out, by repeat (first | (with_reducible first | exact HB.out | apply ag | apply af | apply ah) | exact HB.out)⟩
             ·rw [if_neg c25] at H
              exact absurd H (by simp)
            ·rw [if_neg c24] at H
             exact absurd H (by simp)
     ·rw [if_neg c9] at H
      exact absurd H (by simp)
    ·rw [if_neg c8] at H
     exact absurd H (by simp)
end Go.Proofs.YtmjlmloomkodpaaGreatDoor.PA
namespace Go.Proofs.YtmjlmloomkodpaaGreatDoor.PA
open Go.RowKit Go.Proofs.ae.aw Go.Proofs.ae.aJ Go.Proofs.ae.aN
attribute [local go_sem] bm bh bA bz a6 aZ bj bf
set_option linter.unusedVariables false
set_option linter.unusedSimpArgs false
def fT.f (k : Nat) (a0_0 : Int) (a0_1 : Int) (l0_2 : List Int) (l0_3 : List Int) (a1 : Bool) : Option (Int × Int × List Int × List Int) := (br.f k l0_2 a1).bind fun t431 => ((br.f k l0_3 a1).bind fun t434 => (some (a0_0, a0_1, t431, t434)))
set_option maxHeartbeats 8000000 in
set_option maxRecDepth 100000 in
theorem fT.calls (k : Nat) (a0_0 : Int) (a0_1 : Int) (A0_2 : Option Addr) (c0_2 : Nat) (l0_2 : List Int) (A0_3 : Option Addr) (c0_3 : Nat) (l0_3 : List Int) (a1 : Bool) (r1 : Int) (r2 : Int) (r3 : List Int) (r4 : List Int) (w : World) (b0 : Kd.C (Kd.int .i64) w A0_2 l0_2.length l0_2) (bW : l0_2.length ≤ c0_2) (bZ : Kd.C (Kd.int .i64) w A0_3 l0_3.length l0_3) (bV : l0_3.length ≤ c0_3) (h : fT.f k a0_0 a0_1 l0_2 l0_3 a1 = some (r1, r2, r3, r4)) :
  Calls Tryz.prog 37 #[.agg #[.int .i64 a0_0, .int .i64 a0_1, .slice A0_2 l0_2.length c0_2, .slice A0_3 l0_3.length c0_3], .bool a1] w fun e w' => ∃ v2_ v3_ : Value, e = .returned (.agg #[.int .i64 r1, .int .i64 r2, v2_, v3_]) ∧ Kd.R (Kd.int .i64) 3 w' w.heap.size (fun k_ => some k_ ≠ (v3_ : Value).ownBlock) v2_ r3 ∧ Kd.R (Kd.int .i64) 3 w' w.heap.size (fun k_ => some k_ ≠ (v2_ : Value).ownBlock) v3_ r4 ∧ Below w.heap.size w w' := by
 have hu24 := Tryz.underlying24
 have hu28 := Tryz.underlying28
 have cy := aa.mk b0
 have cD := aa.mk bW
 clear b0 bW
 have cG := aa.mk bZ
 have cJ := aa.mk bV
 clear bZ bV
 have HB := aa.mk (Below.refl w.heap.size w)
 have H : ((br.f k l0_2 a1).bind fun t431 => ((br.f k l0_3 a1).bind fun t434 => (some (a0_0, a0_1, t431, t434)))) = some (r1, r2, r3, r4) := h
 clear h
 replace H := Option.bind_eq_some_iff.mp H
 obtain ⟨t431, A30, H⟩ := H
 replace H : ((br.f k l0_3 a1).bind fun t434 => (some (a0_0, a0_1, t431, t434))) = some (r1, r2, r3, r4) := H
 have A3 := aa.mk A30
 clear A30
 replace H := Option.bind_eq_some_iff.mp H
 obtain ⟨t434, A40, H⟩ := H
 replace H : (some (a0_0, a0_1, t431, t434)) = some (r1, r2, r3, r4) := H
 have A4 := aa.mk A40
 clear A40
 simp only [Option.some.injEq, Prod.mk.injEq] at H
 obtain ⟨rfl, rfl, rfl, rfl⟩ := H
 go_enter Tryz.func37, Tryz.ntmps37
 go_wp2_with (first | ((with_reducible refine aQ (N := 2) rfl ?_); refine aM ?hg (N := 2) ?hd (cs := #[.int .i64 a0_0, .int .i64 a0_1, .slice A0_2 l0_2.length c0_2, .slice A0_3 l0_3.length c0_3]) (t := 24) ?hr ?_; (case hd => rfl); (case hg => rfl); (case hr => first | (go_simp; done) | (go_simp; rfl)); intro dz hg w5 hbox hb; have n0_ := aa.mk (ar (by repeat (first | (with_reducible first | exact HB.out | apply ag | apply af | apply ah) | exact HB.out)) hb); have n1_ := aa.mk (hbox); have n2_ := aa.mk ((by rw [hg]; exact (aq (by repeat (first | (with_reducible first | exact HB.out | apply ag | apply af | apply ah) | exact HB.out))) : w.heap.size ≤ dz)); have n3_ := aa.mk ((by rw [hg]; exact (aq (by repeat (first | (with_reducible first | exact HB.out | apply ag | apply af | apply ah) | exact HB.out))) : w.heap.size ≤ dz)); clear HB; have HB := n0_; have cO := n1_; have FT := n2_; have fB := n3_; clear n0_ n1_ n2_ n3_; clear hb hbox hg) | ((with_reducible refine aQ (N := 4) rfl ?_); refine aM ?hg (N := 4) ?hd (cs := #[.int .i64 0, .int .i64 0, .slice none 0 0, .slice none 0 0]) (t := 28) ?hr ?_; (case hd => rfl); (case hg => rfl); (case hr => first | (go_simp; done) | (go_simp; rfl)); intro du hg w6 hbox hb; have n0_ := aa.mk (aD (g := dz) (o := .cells #[.int .i64 a0_0, .int .i64 a0_1, .slice A0_2 l0_2.length c0_2, .slice A0_3 l0_3.length c0_3] 24 (0, 0)) (by (with_reducible repeat (first | refine al ?_ _ | refine ao ?_ | refine an ?_ _)); exact cO.out) hb); have n1_ := aa.mk (ar (by repeat (first | (with_reducible first | exact HB.out | apply ag | apply af | apply ah | refine ak ?_ fB.out) | exact HB.out)) hb); have n2_ := aa.mk (hbox); have n3_ := aa.mk ((by rw [hg]; exact (aq (by repeat (first | (with_reducible first | exact HB.out | apply ag | apply af | apply ah | refine ak ?_ fB.out) | exact HB.out))) : w.heap.size ≤ du)); have n4_ := aa.mk ((by rw [hg]; exact (aq (by repeat (first | (with_reducible first | exact HB.out | apply ag | apply af | apply ah | refine ak ?_ fB.out) | exact HB.out))) : w.heap.size ≤ du)); have n5_ := aa.mk ((by rw [hg]; exact Nat.ne_of_lt (a7 (g := dz) (o := .cells #[.int .i64 a0_0, .int .i64 a0_1, .slice A0_2 l0_2.length c0_2, .slice A0_3 l0_3.length c0_3] 24 (0, 0)) (by (with_reducible repeat (first | refine al ?_ _ | refine ao ?_ | refine an ?_ _)); exact cO.out)) : dz ≠ du)); have n6_ := aa.mk ((by rw [hg]; exact Nat.ne_of_gt (a7 (g := dz) (o := .cells #[.int .i64 a0_0, .int .i64 a0_1, .slice A0_2 l0_2.length c0_2, .slice A0_3 l0_3.length c0_3] 24 (0, 0)) (by (with_reducible repeat (first | refine al ?_ _ | refine ao ?_ | refine an ?_ _)); exact cO.out)) : du ≠ dz)); clear cO; clear HB; have cO := n0_; have HB := n1_; have dA := n2_; have FR := n3_; have gH := n4_; have nW := n5_; have nV := n6_; clear n0_ n1_ n2_ n3_ n4_ n5_ n6_; clear hb hbox hg) | ((with_reducible refine aQ (N := 5) rfl ?_); refine aM ?hg (N := 5) ?hd (cs := #[.int .i64 0, .int .i64 0, .slice none 0 0, .slice none 0 0]) (t := 28) ?hr ?_; (case hd => rfl); (case hg => rfl); (case hr => first | (go_simp; done) | (go_simp; rfl)); intro dt hg w7 hbox hb; have n0_ := aa.mk (aD (g := dz) (o := .cells #[.int .i64 a0_0, .int .i64 a0_1, .slice A0_2 l0_2.length c0_2, .slice A0_3 l0_3.length c0_3] 24 (0, 0)) (by (with_reducible repeat (first | refine al ?_ _ | refine ao ?_ | refine an ?_ _)); exact cO.out) hb); have n1_ := aa.mk (aD (g := du) (o := .cells #[.int .i64 0, .int .i64 0, .slice none 0 0, .slice none 0 0] 28 (0, 0)) (by (with_reducible repeat (first | refine al ?_ _ | refine ao ?_ | refine an ?_ _)); exact dA.out) hb); have n2_ := aa.mk (ar (by repeat (first | (with_reducible first | exact HB.out | apply ag | apply af | apply ah | refine ak ?_ fB.out | refine ak ?_ gH.out) | exact HB.out)) hb); have n3_ := aa.mk (hbox); have n4_ := aa.mk ((by rw [hg]; exact (aq (by repeat (first | (with_reducible first | exact HB.out | apply ag | apply af | apply ah | refine ak ?_ fB.out | refine ak ?_ gH.out) | exact HB.out))) : w.heap.size ≤ dt)); have n5_ := aa.mk ((by rw [hg]; exact (aq (by repeat (first | (with_reducible first | exact HB.out | apply ag | apply af | apply ah | refine ak ?_ fB.out | refine ak ?_ gH.out) | exact HB.out))) : w.heap.size ≤ dt)); have n6_ := aa.mk ((by rw [hg]; exact Nat.ne_of_lt (a7 (g := dz) (o := .cells #[.int .i64 a0_0, .int .i64 a0_1, .slice A0_2 l0_2.length c0_2, .slice A0_3 l0_3.length c0_3] 24 (0, 0)) (by (with_reducible repeat (first | refine al ?_ _ | refine ao ?_ | refine an ?_ _)); exact cO.out)) : dz ≠ dt)); have n7_ := aa.mk ((by rw [hg]; exact Nat.ne_of_gt (a7 (g := dz) (o := .cells #[.int .i64 a0_0, .int .i64 a0_1, .slice A0_2 l0_2.length c0_2, .slice A0_3 l0_3.length c0_3] 24 (0, 0)) (by (with_reducible repeat (first | refine al ?_ _ | refine ao ?_ | refine an ?_ _)); exact cO.out)) : dt ≠ dz)); have n8_ := aa.mk ((by rw [hg]; exact Nat.ne_of_lt (a7 (g := du) (o := .cells #[.int .i64 0, .int .i64 0, .slice none 0 0, .slice none 0 0] 28 (0, 0)) (by (with_reducible repeat (first | refine al ?_ _ | refine ao ?_ | refine an ?_ _)); exact dA.out)) : du ≠ dt)); have n9_ := aa.mk ((by rw [hg]; exact Nat.ne_of_gt (a7 (g := du) (o := .cells #[.int .i64 0, .int .i64 0, .slice none 0 0, .slice none 0 0] 28 (0, 0)) (by (with_reducible repeat (first | refine al ?_ _ | refine ao ?_ | refine an ?_ _)); exact dA.out)) : dt ≠ du)); clear cO; clear dA; clear HB; have cO := n0_; have dA := n1_; have HB := n2_; have cH := n3_; have FQ := n4_; have jE := n5_; have gu := n6_; have nU := n7_; have fy := n8_; have nT := n9_; clear n0_ n1_ n2_ n3_ n4_ n5_ n6_ n7_ n8_ n9_; clear hb hbox hg; have Bk := nW.out; have Bj := nV.out; have hnb9 := gu.out; have hnc9 := nU.out; have jS : w7.cell? ⟨dz, 0, none⟩ = some (.int .i64 a0_0) := (ai cO.out 0).trans rfl; have jR : w7.cell? ⟨dz, 1, none⟩ = some (.int .i64 a0_1) := (ai cO.out 1).trans rfl; have jQ : w7.cell? ⟨dz, 2, none⟩ = some (.slice A0_2 l0_2.length c0_2) := (ai cO.out 2).trans rfl; have jP : w7.cell? ⟨dz, 3, none⟩ = some (.slice A0_3 l0_3.length c0_3) := (ai cO.out 3).trans rfl; have jO := aj cO.out 0; have jN := aj cO.out 1; have jM := aj cO.out 2; have jL := aj cO.out 3; have vW := nT.out; have vV := fy.out; have iM : w7.cell? ⟨dt, 0, none⟩ = some (.int .i64 0) := (ai cH.out 0).trans rfl; have iL : w7.cell? ⟨dt, 1, none⟩ = some (.int .i64 0) := (ai cH.out 1).trans rfl; have iK : w7.cell? ⟨dt, 2, none⟩ = some (.slice none 0 0) := (ai cH.out 2).trans rfl; have iJ : w7.cell? ⟨dt, 3, none⟩ = some (.slice none 0 0) := (ai cH.out 3).trans rfl; have iI := aj cH.out 0; have iH := aj cH.out 1; have iG := aj cH.out 2; have iE := aj cH.out 3) | ((with_reducible refine az (f := 66) rfl ?_); refine bH (some 15) rfl rfl Tryz.func66 (by kernel_rfl) rfl #[.slice A0_2 l0_2.length c0_2, .bool a1] rfl (by (try simp only [List.map_toArray, List.map_cons, List.map_nil]); first | done | rfl | (simp only [List.length_drop, List.length_take]; rfl)) ?_; (with_reducible refine (br.calls k _ _ l0_2 a1 t431 _ ?side1 ?side2 A3.out).mono ?_); (case side1 => exact Kd.ay cy.out (by repeat (first | (with_reducible first | exact HB.out | apply ag | apply af | apply ah | refine ak ?_ fB.out | refine ak ?_ gH.out | refine ak ?_ jE.out) | exact HB.out))); (case side2 => exact cD.out); rintro e w13 ⟨v432, rfl, ho0, hb⟩; refine ⟨_, rfl, ?_⟩; have n0_ := aa.mk (Kd.cU ho0 (aq (by repeat (first | (with_reducible first | exact HB.out | apply ag | apply af | apply ah | refine ak ?_ fB.out | refine ak ?_ gH.out | refine ak ?_ jE.out) | exact HB.out)))); have n1_ := aa.mk (aD (g := dz) (o := .cells #[.int .i64 a0_0, .int .i64 a0_1, .slice A0_2 l0_2.length c0_2, .slice A0_3 l0_3.length c0_3] 24 (0, 0)) (by (with_reducible repeat (first | refine al ?_ _ | refine ao ?_ | refine an ?_ _)); refine cS ?_ gu.out _; (with_reducible repeat (first | refine al ?_ _ | refine ao ?_ | refine an ?_ _)); refine cS ?_ gu.out _; (with_reducible repeat (first | refine al ?_ _ | refine ao ?_ | refine an ?_ _)); exact cO.out) hb); have n2_ := aa.mk (aD (g := du) (o := .cells #[.int .i64 0, .int .i64 0, .slice none 0 0, .slice none 0 0] 28 (0, 0)) (by (with_reducible repeat (first | refine al ?_ _ | refine ao ?_ | refine an ?_ _)); refine cS ?_ fy.out _; (with_reducible repeat (first | refine al ?_ _ | refine ao ?_ | refine an ?_ _)); refine cS ?_ fy.out _; (with_reducible repeat (first | refine al ?_ _ | refine ao ?_ | refine an ?_ _)); exact dA.out) hb); have n3_ := aa.mk (aD (g := dt) (o := .cells #[.int .i64 a0_0, .int .i64 a0_1, .slice none 0 0, .slice none 0 0] 28 (0, 0)) (by (with_reducible repeat (first | refine al ?_ _ | refine ao ?_ | refine an ?_ _)); refine bF (cs := #[.int .i64 a0_0, .int .i64 0, .slice none 0 0, .slice none 0 0]) ?_ 1 _ rfl; (with_reducible repeat (first | refine al ?_ _ | refine ao ?_ | refine an ?_ _)); refine bF (cs := #[.int .i64 0, .int .i64 0, .slice none 0 0, .slice none 0 0]) ?_ 0 _ rfl; (with_reducible repeat (first | refine al ?_ _ | refine ao ?_ | refine an ?_ _)); exact cH.out) hb); have n4_ := aa.mk (ar (by repeat (first | (with_reducible first | exact HB.out | apply ag | apply af | apply ah | refine ak ?_ fB.out | refine ak ?_ gH.out | refine ak ?_ jE.out) | exact HB.out)) hb); clear cO; clear dA; clear cH; clear HB; have kR := n0_; have cO := n1_; have dA := n2_; have cH := n3_; have HB := n4_; clear n0_ n1_ n2_ n3_ n4_; (try clear hb); (try clear hb2); (try clear hk); (try clear hi); (try clear ho0); obtain ⟨fO, fM, zp⟩ := Kd.bE kR.out; subst zp; have sT : w13.cell? ⟨dt, 0, none⟩ = some (.int .i64 a0_0) := (ai cH.out 0).trans rfl; have sS : w13.cell? ⟨dt, 1, none⟩ = some (.int .i64 a0_1) := (ai cH.out 1).trans rfl; have sR : w13.cell? ⟨dt, 2, none⟩ = some (.slice none 0 0) := (ai cH.out 2).trans rfl; have sP : w13.cell? ⟨dt, 3, none⟩ = some (.slice none 0 0) := (ai cH.out 3).trans rfl; have sm := aj cH.out 0; have sk := aj cH.out 1; have sj := aj cH.out 2; have si := aj cH.out 3; have lX : w13.cell? ⟨dz, 0, none⟩ = some (.int .i64 a0_0) := (ai cO.out 0).trans rfl; have lW : w13.cell? ⟨dz, 1, none⟩ = some (.int .i64 a0_1) := (ai cO.out 1).trans rfl; have mX : w13.cell? ⟨dz, 2, none⟩ = some (.slice A0_2 l0_2.length c0_2) := (ai cO.out 2).trans rfl; have mW : w13.cell? ⟨dz, 3, none⟩ = some (.slice A0_3 l0_3.length c0_3) := (ai cO.out 3).trans rfl; have lV := aj cO.out 0; have lS := aj cO.out 1; have mV := aj cO.out 2; have mT := aj cO.out 3) | ((with_reducible refine az (f := 66) rfl ?_); refine bH (some 20) rfl rfl Tryz.func66 (by kernel_rfl) rfl #[.slice A0_3 l0_3.length c0_3, .bool a1] rfl (by (try simp only [List.map_toArray, List.map_cons, List.map_nil]); first | done | rfl | (simp only [List.length_drop, List.length_take]; rfl)) ?_; (with_reducible refine (br.calls k _ _ l0_3 a1 t434 _ ?side1 ?side2 A4.out).mono ?_); (case side1 => exact Kd.ay cG.out (by repeat (first | (with_reducible first | exact HB.out | apply ag | apply af | apply ah | refine ak ?_ fB.out | refine ak ?_ gH.out | refine ak ?_ jE.out) | exact HB.out))); (case side2 => exact cJ.out); rintro e w17 ⟨v435, rfl, ho0, hb⟩; refine ⟨_, rfl, ?_⟩; have n0_ := aa.mk (Kd.qf (by (with_reducible repeat (first | apply Kd.aH | apply Kd.aG | apply Kd.aV)); exact (Kd.bT (Kd.bp (p := ⟨dt, 2, none⟩) (Kd.cT kR.out cH.out (by decide)) (fun _ hk => hk.2) (.slice fO t431.length fM)) (fun _ h_ => h_.1))) (Kd.kM ho0) hb); have n1_ := aa.mk (Kd.cU (Kd.qd ho0 (Kd.ki (by (with_reducible repeat (first | apply Kd.aH | apply Kd.aG | apply Kd.aV)); exact (Kd.bT (Kd.bp (p := ⟨dt, 2, none⟩) (Kd.cT kR.out cH.out (by decide)) (fun _ hk => hk.2) (.slice fO t431.length fM)) (fun _ h_ => h_.1))))) (aq (by repeat (first | (with_reducible first | exact HB.out | apply ag | apply af | apply ah | refine ak ?_ fB.out | refine ak ?_ gH.out | refine ak ?_ jE.out) | exact HB.out)))); have n2_ := aa.mk (aD (g := dz) (o := .cells #[.int .i64 a0_0, .int .i64 a0_1, .slice A0_2 l0_2.length c0_2, .slice A0_3 l0_3.length c0_3] 24 (0, 0)) (by (with_reducible repeat (first | refine al ?_ _ | refine ao ?_ | refine an ?_ _)); refine cS ?_ gu.out _; (with_reducible repeat (first | refine al ?_ _ | refine ao ?_ | refine an ?_ _)); exact cO.out) hb); have n3_ := aa.mk (aD (g := du) (o := .cells #[.int .i64 0, .int .i64 0, .slice none 0 0, .slice none 0 0] 28 (0, 0)) (by (with_reducible repeat (first | refine al ?_ _ | refine ao ?_ | refine an ?_ _)); refine cS ?_ fy.out _; (with_reducible repeat (first | refine al ?_ _ | refine ao ?_ | refine an ?_ _)); exact dA.out) hb); have n4_ := aa.mk (aD (g := dt) (o := .cells #[.int .i64 a0_0, .int .i64 a0_1, .slice fO t431.length fM, .slice none 0 0] 28 (0, 0)) (by (with_reducible repeat (first | refine al ?_ _ | refine ao ?_ | refine an ?_ _)); refine bF (cs := #[.int .i64 a0_0, .int .i64 a0_1, .slice none 0 0, .slice none 0 0]) ?_ 2 _ rfl; (with_reducible repeat (first | refine al ?_ _ | refine ao ?_ | refine an ?_ _)); exact cH.out) hb); have n5_ := aa.mk (ar (by repeat (first | (with_reducible first | exact HB.out | apply ag | apply af | apply ah | refine ak ?_ fB.out | refine ak ?_ gH.out | refine ak ?_ jE.out) | exact HB.out)) hb); clear kR; clear cO; clear dA; clear cH; clear HB; have kR := n0_; have xq := n1_; have cO := n2_; have dA := n3_; have cH := n4_; have HB := n5_; clear n0_ n1_ n2_ n3_ n4_ n5_; (try clear hb); (try clear hb2); (try clear hk); (try clear hi); (try clear ho0); obtain ⟨oP, oM, eo18⟩ := Kd.bE xq.out; subst eo18; have wP : w17.cell? ⟨dt, 0, none⟩ = some (.int .i64 a0_0) := (ai cH.out 0).trans rfl; have wO : w17.cell? ⟨dt, 1, none⟩ = some (.int .i64 a0_1) := (ai cH.out 1).trans rfl; have wN : w17.cell? ⟨dt, 2, none⟩ = some (.slice fO t431.length fM) := (ai cH.out 2).trans rfl; have wM : w17.cell? ⟨dt, 3, none⟩ = some (.slice none 0 0) := (ai cH.out 3).trans rfl; have wu := aj cH.out 0; have wq := aj cH.out 1; have wm := aj cH.out 2; have wk := aj cH.out 3; have sM : w17.cell? ⟨du, 0, none⟩ = some (.int .i64 0) := (ai dA.out 0).trans rfl; have sL : w17.cell? ⟨du, 1, none⟩ = some (.int .i64 0) := (ai dA.out 1).trans rfl; have sK : w17.cell? ⟨du, 2, none⟩ = some (.slice none 0 0) := (ai dA.out 2).trans rfl; have sJ : w17.cell? ⟨du, 3, none⟩ = some (.slice none 0 0) := (ai dA.out 3).trans rfl; have sd := aj dA.out 0; have sc := aj dA.out 1; have sb := aj dA.out 2; have sa := aj dA.out 3))
 refine bodyPost_ret (results_cell_row rfl _ _ du 28 #[.int .i64 a0_0, .int .i64 a0_1, .slice fO t431.length fM, .slice oP t434.length oM] (0, 0) _ rfl (by (with_reducible repeat (first | refine al ?_ _ | refine ao ?_ | refine an ?_ _)); refine bF (cs := #[.int .i64 a0_0, .int .i64 a0_1, .slice fO t431.length fM, .slice none 0 0]) ?_ 3 _ rfl; (with_reducible repeat (first | refine al ?_ _ | refine ao ?_ | refine an ?_ _)); refine bF (cs := #[.int .i64 a0_0, .int .i64 a0_1, .slice none 0 0, .slice none 0 0]) ?_ 2 _ rfl; (with_reducible repeat (first | refine al ?_ _ | refine ao ?_ | refine an ?_ _)); refine bF (cs := #[.int .i64 a0_0, .int .i64 0, .slice none 0 0, .slice none 0 0]) ?_ 1 _ rfl; (with_reducible repeat (first | refine al ?_ _ | refine ao ?_ | refine an ?_ _)); refine bF (cs := #[.int .i64 0, .int .i64 0, .slice none 0 0, .slice none 0 0]) ?_ 0 _ rfl; (with_reducible repeat (first | refine al ?_ _ | refine ao ?_ | refine an ?_ _)); refine cS ?_ fy.out _; (with_reducible repeat (first | refine al ?_ _ | refine ao ?_ | refine an ?_ _)); exact dA.out) Tryz.underlying28 rfl (by kernel_rfl)) rfl ?_
 exact ⟨_, _, by first | rfl | (simp [av, au] <;> rfl) | (simp [*, av, au] <;> rfl), by (with_reducible repeat (first | apply Kd.aH | apply Kd.aG | apply Kd.aV)); exact Kd.bT (Kd.bp (p := ⟨du, 3, none⟩) (Kd.bp (p := ⟨du, 2, none⟩) (Kd.bp (p := ⟨du, 1, none⟩) (Kd.bp (p := ⟨du, 0, none⟩) (Kd.bp (p := ⟨dt, 3, none⟩) (Kd.cT (Kd.cT kR.out cH.out (by decide)) dA.out (by decide)) (fun _ hk => hk.1.2) (.slice oP t434.length oM)) (fun _ hk => hk.2) (.int .i64 a0_0)) (fun _ hk => hk.2) (.int .i64 a0_1)) (fun _ hk => hk.2) (.slice fO t431.length fM)) (fun _ hk => hk.2) (.slice oP t434.length oM)) (fun _ hk => hk.1.1.2), by (with_reducible repeat (first | apply Kd.aH | apply Kd.aG | apply Kd.aV)); exact Kd.bT (Kd.bp (p := ⟨du, 3, none⟩) (Kd.bp (p := ⟨du, 2, none⟩) (Kd.bp (p := ⟨du, 1, none⟩) (Kd.bp (p := ⟨du, 0, none⟩) (Kd.bp (p := ⟨dt, 3, none⟩) (Kd.cT (Kd.cT xq.out cH.out (by decide)) dA.out (by decide)) (fun _ hk => hk.1.2) (.slice oP t434.length oM)) (fun _ hk => hk.2) (.int .i64 a0_0)) (fun _ hk => hk.2) (.int .i64 a0_1)) (fun _ hk => hk.2) (.slice fO t431.length fM)) (fun _ hk => hk.2) (.slice oP t434.length oM)) (fun _ hk => hk.1.1.2), by repeat (first | (with_reducible first | exact HB.out | apply ag | apply af | apply ah | refine ak ?_ fB.out | refine ak ?_ gH.out | refine ak ?_ jE.out) | exact HB.out)⟩
end Go.Proofs.YtmjlmloomkodpaaGreatDoor.PA
