/- A part of the proof of the law TopGluePlate: whatever the input, the call returns true and its arguments read as they read before; no condition. Written by a program of this session out of its own texts and the printed ones. -/
import Derived.Below
import Derived.Deep.Draws
import Derived.Deep.AppendLies
import Derived.Maps.AppendAt
import Derived.OwnWalk
import Derived.Laws.BytesArg
import Derived.Laws.MakeOwn
import Derived.Laws.OwnMore
import Derived.Deep.OwnRows
import Derived.Tactics
import Derived.Lib.ConvBytes
import Derived.Laws.Slices
import Derived.WalkKit
import Derived.KernelRfl
import Derived.RowKit3
import Derived.Deep.LoopGhost
import Derived.Deep.QuietTactic
import Derived.BigQuiet
import Derived.WideLaws
import Derived.Deep.DeepCutAuto
import Derived.Deep.CutBlock
import Derived.Deep.RegionHeld3
import Derived.Laws.Rows
import Derived.Lib.AppendStr
import Derived.ArgAppend
import Derived.Laws.IdiomCopy
import Derived.OrdersHeld
import Derived.Laws.BitsLemmas
import Derived.RowKit
import Derived.Shelf.Abstract
import Derived.Lib.SliceRun
import Derived.Deep.Upon
import Derived.Lib.LazyBuf
import Derived.IntWalk
import Derived.RangeFuncRecord
import Derived.Test.YtoacbkoenkiahaaGreatProg
import Derived.Test.YtoacbkoenkiahaaGreatPkW1
section
namespace Go.Proofs.YtoacbkoenkiahaaGreat.PTopGluePlate
open Go.RowKit Go.Proofs.YtoacbkoenkiahaaGreatW.PrintWords Go.Proofs.YtoacbkoenkiahaaGreatW.PrintLast Go.Proofs.YtoacbkoenkiahaaGreatW.PrintMore
attribute [local go_sem] znb zlb zhc zgc zeb zdb zmb zkb
set_option linter.unusedVariables false
set_option linter.unusedSimpArgs false
def errW : Option Int → Value
 | none => .nilIface
 | some c => .iface 0 (.int .i64 c)
theorem zwa : errW none = .nilIface := rfl
theorem zva (c : Int) : errW (some c) = .iface 0 (.int .i64 c) := rfl
theorem info3 : (Tryz.prog.info? 3).map (fun i => (i.zero, i.size, i.bytes)) = some (some (.int .i64 0), 1, 8) := by kernel_rfl
theorem info5 : (Tryz.prog.info? 5).map (fun i => (i.zero, i.size, i.bytes)) = some (some (.int .u8 0), 1, 1) := by kernel_rfl
theorem info9 : (Tryz.prog.info? 9).map (fun i => (i.zero, i.size, i.bytes)) = some (some (.string ⟨#[]⟩), 1, 16) := by kernel_rfl
theorem info24 : (Tryz.prog.info? 24).map (fun i => (i.zero, i.size, i.bytes)) = some (some (.slice none 0 0), 1, 24) := by kernel_rfl
theorem info32 : (Tryz.prog.info? 32).map (fun i => (i.zero, i.size, i.bytes)) = some (some (.agg #[(.int .i64 0), (.int .i64 0), (.int .i64 0)]), 3, 24) := by kernel_rfl
theorem info33 : (Tryz.prog.info? 33).map (fun i => (i.zero, i.size, i.bytes)) = some (some (.slice none 0 0), 1, 24) := by kernel_rfl
theorem info59 : (Tryz.prog.info? 59).map (fun i => (i.zero, i.size, i.bytes)) = some (some (.agg #[(.int .i64 0), (.int .i64 0), (.int .i64 0), (.bool false)]), 4, 32) := by kernel_rfl
theorem info79 : (Tryz.prog.info? 79).map (fun i => (i.zero, i.size, i.bytes)) = some (some (.slice none 0 0), 1, 24) := by kernel_rfl
structure S32 where
 f0 : Int
 f1 : Int
 f2 : Int
def z32 : S32 := ⟨(0 : Int), (0 : Int), (0 : Int)⟩
def k32 : Kd S32 := Kd.iso (Kd.pair (Kd.int .i64) (Kd.pair (Kd.int .i64) (Kd.int .i64))) (fun x : S32 => (x.f0, x.f1, x.f2))
theorem k32_open {w : World} {x : S32} {cs : List Value} (h : k32.K w x cs) : cs = [.int .i64 x.f0, .int .i64 x.f1, .int .i64 x.f2] := by
 obtain ⟨_, _, rfl, rfl, ⟨_, _, rfl, rfl, rfl⟩⟩ := h
 exact rfl
theorem k32_mkM (w : World) (base : Nat) (ok : Nat → Prop) (x : S32)  : k32.M w base ok x [.int .i64 x.f0, .int .i64 x.f1, .int .i64 x.f2] := ⟨[.int .i64 x.f0], [.int .i64 x.f1, .int .i64 x.f2], rfl, rfl, ⟨[.int .i64 x.f1], [.int .i64 x.f2], rfl, rfl, rfl⟩⟩
def zta (xs : List S32) (i : Int) : S32 := xs.getD i.toNat z32
theorem at_T32 {w : World} {A : Option Addr} {n : Nat} {xs : List S32} (h : Kd.C k32 w A n xs) (i : Int) (h0 : 0 ≤ i) (h1 : i < n) : ∃ ad , A = some ad ∧ w.cell? (ad.add (i.toNat * 3)) = some (.int .i64 (zta xs i).f0) ∧ w.cell? ⟨(ad.add (i.toNat * 3)).block, (ad.add (i.toNat * 3)).off + 1, none⟩ = some (.int .i64 (zta xs i).f1) ∧ w.cell? ⟨(ad.add (i.toNat * 3)).block, (ad.add (i.toNat * 3)).off + 2, none⟩ = some (.int .i64 (zta xs i).f2) := by
 obtain ⟨ad, c, e, _, hK, hc0⟩ := Kd.C_get h z32 i h0 h1
 have hc : ∀ j u, c[j]? = some u → w.cell? (ad.add (i.toNat * 3 + j)) = some u := hc0
 obtain rfl := k32_open hK
 exact ⟨ad, e, hc 0 _ rfl, by rw [← add_field _ _ 1 (by omega)]; exact hc 1 _ rfl, by rw [← add_field _ _ 2 (by omega)]; exact hc 2 _ rfl⟩
def rd_L2 (xs : List (List S32)) (i : Int) : (List S32) := xs.getD i.toNat ([] : List S32)
theorem at_L2 {w : World} {A : Option Addr} {n : Nat} {xs : List (List S32)} (h : Kd.C (Kd.slice 32 k32) w A n xs) (i : Int) (h0 : 0 ≤ i) (h1 : i < n) : ∃ ad A0 c0, A = some ad ∧ w.cell? (ad.add i.toNat) = some (.slice A0 (rd_L2 xs i).length c0) ∧ (rd_L2 xs i).length ≤ c0 ∧ k32.C w A0 (rd_L2 xs i).length (rd_L2 xs i) := by
 obtain ⟨ad, c, e, _, hK, hc0⟩ := Kd.C_get h ([] : List S32) i h0 h1
 have hc : ∀ j u, c[j]? = some u → w.cell? (ad.add (i.toNat * 1 + j)) = some u := hc0
 obtain ⟨A0, c0, rfl, l0, g0⟩ := hK
 exact ⟨ad, A0, c0, e, by have hq := hc 0 _ rfl; rwa [Nat.mul_one, Nat.add_zero] at hq, l0, g0⟩
def rd_L3 (xs : List (List Int)) (i : Int) : (List Int) := xs.getD i.toNat ([] : List Int)
theorem at_L3 {w : World} {A : Option Addr} {n : Nat} {xs : List (List Int)} (h : Kd.C (Kd.slice 3 (Kd.int .i64)) w A n xs) (i : Int) (h0 : 0 ≤ i) (h1 : i < n) : ∃ ad A0 c0, A = some ad ∧ w.cell? (ad.add i.toNat) = some (.slice A0 (rd_L3 xs i).length c0) ∧ (rd_L3 xs i).length ≤ c0 ∧ (Kd.int .i64).C w A0 (rd_L3 xs i).length (rd_L3 xs i) := by
 obtain ⟨ad, c, e, _, hK, hc0⟩ := Kd.C_get h ([] : List Int) i h0 h1
 have hc : ∀ j u, c[j]? = some u → w.cell? (ad.add (i.toNat * 1 + j)) = some u := hc0
 obtain ⟨A0, c0, rfl, l0, g0⟩ := hK
 exact ⟨ad, A0, c0, e, by have hq := hc 0 _ rfl; rwa [Nat.mul_one, Nat.add_zero] at hq, l0, g0⟩
structure S45 where
 f0 : Int
 f1 : Int
def z45 : S45 := ⟨(0 : Int), (0 : Int)⟩
def k45 : Kd S45 := Kd.iso (Kd.pair (Kd.int .i64) (Kd.int .i64)) (fun x : S45 => (x.f0, x.f1))
theorem k45_open {w : World} {x : S45} {cs : List Value} (h : k45.K w x cs) : cs = [.int .i64 x.f0, .int .i64 x.f1] := by
 obtain ⟨_, _, rfl, rfl, rfl⟩ := h
 exact rfl
theorem k45_mkM (w : World) (base : Nat) (ok : Nat → Prop) (x : S45)  : k45.M w base ok x [.int .i64 x.f0, .int .i64 x.f1] := ⟨[.int .i64 x.f0], [.int .i64 x.f1], rfl, rfl, rfl⟩
def rd_T45 (xs : List S45) (i : Int) : S45 := xs.getD i.toNat z45
theorem at_T45 {w : World} {A : Option Addr} {n : Nat} {xs : List S45} (h : Kd.C k45 w A n xs) (i : Int) (h0 : 0 ≤ i) (h1 : i < n) : ∃ ad , A = some ad ∧ w.cell? (ad.add (i.toNat * 2)) = some (.int .i64 (rd_T45 xs i).f0) ∧ w.cell? ⟨(ad.add (i.toNat * 2)).block, (ad.add (i.toNat * 2)).off + 1, none⟩ = some (.int .i64 (rd_T45 xs i).f1) := by
 obtain ⟨ad, c, e, _, hK, hc0⟩ := Kd.C_get h z45 i h0 h1
 have hc : ∀ j u, c[j]? = some u → w.cell? (ad.add (i.toNat * 2 + j)) = some u := hc0
 obtain rfl := k45_open hK
 exact ⟨ad, e, hc 0 _ rfl, by rw [← add_field _ _ 1 (by omega)]; exact hc 1 _ rfl⟩
structure S51 where
 f0 : Int
 f1 : Int
def z51 : S51 := ⟨(0 : Int), (0 : Int)⟩
def k51 : Kd S51 := Kd.iso (Kd.pair (Kd.int .i64) (Kd.int .i64)) (fun x : S51 => (x.f0, x.f1))
theorem k51_open {w : World} {x : S51} {cs : List Value} (h : k51.K w x cs) : cs = [.int .i64 x.f0, .int .i64 x.f1] := by
 obtain ⟨_, _, rfl, rfl, rfl⟩ := h
 exact rfl
theorem k51_mkM (w : World) (base : Nat) (ok : Nat → Prop) (x : S51)  : k51.M w base ok x [.int .i64 x.f0, .int .i64 x.f1] := ⟨[.int .i64 x.f0], [.int .i64 x.f1], rfl, rfl, rfl⟩
def rd_T51 (xs : List S51) (i : Int) : S51 := xs.getD i.toNat z51
theorem at_T51 {w : World} {A : Option Addr} {n : Nat} {xs : List S51} (h : Kd.C k51 w A n xs) (i : Int) (h0 : 0 ≤ i) (h1 : i < n) : ∃ ad , A = some ad ∧ w.cell? (ad.add (i.toNat * 2)) = some (.int .i64 (rd_T51 xs i).f0) ∧ w.cell? ⟨(ad.add (i.toNat * 2)).block, (ad.add (i.toNat * 2)).off + 1, none⟩ = some (.int .i64 (rd_T51 xs i).f1) := by
 obtain ⟨ad, c, e, _, hK, hc0⟩ := Kd.C_get h z51 i h0 h1
 have hc : ∀ j u, c[j]? = some u → w.cell? (ad.add (i.toNat * 2 + j)) = some u := hc0
 obtain rfl := k51_open hK
 exact ⟨ad, e, hc 0 _ rfl, by rw [← add_field _ _ 1 (by omega)]; exact hc 1 _ rfl⟩
structure S53 where
 f0 : S51
 f1 : S51
def z53 : S53 := ⟨z51, z51⟩
def k53 : Kd S53 := Kd.iso (Kd.pair k51 k51) (fun x : S53 => (x.f0, x.f1))
theorem k53_open {w : World} {x : S53} {cs : List Value} (h : k53.K w x cs) : cs = [.int .i64 x.f0.f0, .int .i64 x.f0.f1, .int .i64 x.f1.f0, .int .i64 x.f1.f1] := by
 obtain ⟨_, _, rfl, s0, s2⟩ := h
 obtain rfl := k51_open s0
 obtain rfl := k51_open s2
 exact rfl
theorem k53_mkM (w : World) (base : Nat) (ok : Nat → Prop) (x : S53)  : k53.M w base ok x [.int .i64 x.f0.f0, .int .i64 x.f0.f1, .int .i64 x.f1.f0, .int .i64 x.f1.f1] := ⟨[.int .i64 x.f0.f0, .int .i64 x.f0.f1], [.int .i64 x.f1.f0, .int .i64 x.f1.f1], rfl, (k51_mkM w base ok x.f0 ), (k51_mkM w base ok x.f1 )⟩
def rd_T53 (xs : List S53) (i : Int) : S53 := xs.getD i.toNat z53
theorem at_T53 {w : World} {A : Option Addr} {n : Nat} {xs : List S53} (h : Kd.C k53 w A n xs) (i : Int) (h0 : 0 ≤ i) (h1 : i < n) : ∃ ad , A = some ad ∧ w.cell? (ad.add (i.toNat * 4)) = some (.int .i64 (rd_T53 xs i).f0.f0) ∧ w.cell? ⟨(ad.add (i.toNat * 4)).block, (ad.add (i.toNat * 4)).off + 1, none⟩ = some (.int .i64 (rd_T53 xs i).f0.f1) ∧ w.cell? ⟨(ad.add (i.toNat * 4)).block, (ad.add (i.toNat * 4)).off + 2, none⟩ = some (.int .i64 (rd_T53 xs i).f1.f0) ∧ w.cell? ⟨(ad.add (i.toNat * 4)).block, (ad.add (i.toNat * 4)).off + 3, none⟩ = some (.int .i64 (rd_T53 xs i).f1.f1) := by
 obtain ⟨ad, c, e, _, hK, hc0⟩ := Kd.C_get h z53 i h0 h1
 have hc : ∀ j u, c[j]? = some u → w.cell? (ad.add (i.toNat * 4 + j)) = some u := hc0
 obtain rfl := k53_open hK
 exact ⟨ad, e, hc 0 _ rfl, by rw [← add_field _ _ 1 (by omega)]; exact hc 1 _ rfl, by rw [← add_field _ _ 2 (by omega)]; exact hc 2 _ rfl, by rw [← add_field _ _ 3 (by omega)]; exact hc 3 _ rfl⟩
structure S59 where
 f0 : Int
 f1 : Int
 f2 : Int
 f3 : Bool
def z59 : S59 := ⟨(0 : Int), (0 : Int), (0 : Int), false⟩
def k59 : Kd S59 := Kd.iso (Kd.pair (Kd.int .i64) (Kd.pair (Kd.int .i64) (Kd.pair (Kd.int .i64) Kd.bool))) (fun x : S59 => (x.f0, x.f1, x.f2, x.f3))
theorem k59_open {w : World} {x : S59} {cs : List Value} (h : k59.K w x cs) : cs = [.int .i64 x.f0, .int .i64 x.f1, .int .i64 x.f2, .bool x.f3] := by
 obtain ⟨_, _, rfl, rfl, ⟨_, _, rfl, rfl, ⟨_, _, rfl, rfl, rfl⟩⟩⟩ := h
 exact rfl
theorem k59_mkM (w : World) (base : Nat) (ok : Nat → Prop) (x : S59)  : k59.M w base ok x [.int .i64 x.f0, .int .i64 x.f1, .int .i64 x.f2, .bool x.f3] := ⟨[.int .i64 x.f0], [.int .i64 x.f1, .int .i64 x.f2, .bool x.f3], rfl, rfl, ⟨[.int .i64 x.f1], [.int .i64 x.f2, .bool x.f3], rfl, rfl, ⟨[.int .i64 x.f2], [.bool x.f3], rfl, rfl, rfl⟩⟩⟩
def rd_T59 (xs : List S59) (i : Int) : S59 := xs.getD i.toNat z59
theorem at_T59 {w : World} {A : Option Addr} {n : Nat} {xs : List S59} (h : Kd.C k59 w A n xs) (i : Int) (h0 : 0 ≤ i) (h1 : i < n) : ∃ ad , A = some ad ∧ w.cell? (ad.add (i.toNat * 4)) = some (.int .i64 (rd_T59 xs i).f0) ∧ w.cell? ⟨(ad.add (i.toNat * 4)).block, (ad.add (i.toNat * 4)).off + 1, none⟩ = some (.int .i64 (rd_T59 xs i).f1) ∧ w.cell? ⟨(ad.add (i.toNat * 4)).block, (ad.add (i.toNat * 4)).off + 2, none⟩ = some (.int .i64 (rd_T59 xs i).f2) ∧ w.cell? ⟨(ad.add (i.toNat * 4)).block, (ad.add (i.toNat * 4)).off + 3, none⟩ = some (.bool (rd_T59 xs i).f3) := by
 obtain ⟨ad, c, e, _, hK, hc0⟩ := Kd.C_get h z59 i h0 h1
 have hc : ∀ j u, c[j]? = some u → w.cell? (ad.add (i.toNat * 4 + j)) = some u := hc0
 obtain rfl := k59_open hK
 exact ⟨ad, e, hc 0 _ rfl, by rw [← add_field _ _ 1 (by omega)]; exact hc 1 _ rfl, by rw [← add_field _ _ 2 (by omega)]; exact hc 2 _ rfl, by rw [← add_field _ _ 3 (by omega)]; exact hc 3 _ rfl⟩
end Go.Proofs.YtoacbkoenkiahaaGreat.PTopGluePlate
end
section
namespace Go.Proofs.YtoacbkoenkiahaaGreat.PTopGluePlate
open Go.RowKit Go.Proofs.YtoacbkoenkiahaaGreatW.PrintWords Go.Proofs.YtoacbkoenkiahaaGreatW.PrintLast Go.Proofs.YtoacbkoenkiahaaGreatW.PrintMore
attribute [local go_sem] znb zlb zhc zgc zeb zdb zmb zkb
set_option linter.unusedVariables false
set_option linter.unusedSimpArgs false
theorem eqA51 (d : Nat) (w : World) (x0 y0 : Int) (x1 y1 : Int) :
 (Op.equalIn (d + 2) 51 (.agg #[.int .i64 x0, .int .i64 x1]) (.agg #[.int .i64 y0, .int .i64 y1])).run Tryz.prog w = .ok (x0 == y0 && (x1 == y1)) w := by
 refine eqA_of Tryz.underlying51 (by kernel_rfl) ?_
 refine eqf_cons (by rfl) (by go_simp; rfl) (by go_simp; rfl) (by go_simp) ?_
 exact eqf_last (by rfl) (by go_simp; rfl) (by go_simp; rfl) (by go_simp)
end Go.Proofs.YtoacbkoenkiahaaGreat.PTopGluePlate
end
section
namespace Go.Proofs.YtoacbkoenkiahaaGreat.PTopGluePlate
open Go.RowKit Go.Proofs.YtoacbkoenkiahaaGreatW.PrintWords Go.Proofs.YtoacbkoenkiahaaGreatW.PrintLast Go.Proofs.YtoacbkoenkiahaaGreatW.PrintMore
attribute [local go_sem] znb zlb zhc zgc zeb zdb zmb zkb
set_option linter.unusedVariables false
set_option linter.unusedSimpArgs false
def idxO {α : Type} (p : α → Option Bool) : List α → Nat → Option Int
 | [], _ => some (-1)
 | x :: l, k => (p x).bind fun b => if b = true then some (k : Int) else idxO p l (k + 1)
def containsO {α : Type} (p : α → Option Bool) : List α → Option Bool
 | [] => some false
 | x :: l => (p x).bind fun b => if b = true then some true else containsO p l
theorem rd_nat (l : List Int) (k : Nat) (h : k < l.length) : rd l (k : Int) = l[k] := by
 simp [rd, List.getD_eq_getElem?_getD, List.getElem?_eq_getElem h]
theorem idxO_drop {α : Type} (p : α → Option Bool) (l : List α) (k : Nat) (h : k < l.length) : idxO p (l.drop k) k = (p l[k]).bind fun b => if b = true then some (k : Int) else idxO p (l.drop (k + 1)) (k + 1) := by
 rw [List.drop_eq_getElem_cons h, idxO]
theorem containsO_idx {α : Type} (p : α → Option Bool) (l : List α) (r : Bool) (h : containsO p l = some r) : ∃ x, idxO p l 0 = some x ∧ decide (0 ≤ x) = r := by
 suffices H : ∀ k : Nat, ∃ x, idxO p l k = some x ∧ decide (0 ≤ x) = r from H 0
 induction l with
 | nil => intro k; exact ⟨-1, rfl, by simpa [containsO] using h⟩
 | cons y l ih =>
  intro k
  rw [containsO] at h
  rw [idxO]
  cases hp : p y with
  | none => rw [hp] at h; simp at h
  | some b =>
   rw [hp] at h
   cases b with
   | true => exact ⟨k, by simp, by simpa using h⟩
   | false => obtain ⟨x, h1, h2⟩ := ih (by simpa using h) (k + 1); exact ⟨x, by simpa using h1, h2⟩
theorem containsO_total {α : Type} (p : α → Option Bool) (q : α → Bool) (l : List α) (h : ∀ x ∈ l, p x = some (q x)) : containsO p l = some (l.any q) := by
 induction l with
 | nil => rfl
 | cons x l ih =>
  rw [containsO, h x (List.mem_cons_self ..), ih (fun y hy => h y (List.mem_cons_of_mem _ hy))]
  rw [List.any_cons]
  cases q x with
  | true => rfl
  | false => simp only [Option.bind_some, Bool.false_or, Bool.false_eq_true, if_false]
theorem zrd {w : World} {g : Nat} {cs : Array Value} {t : TypeId} {fr : Nat × Nat} (h : w.heap[g]? = some (.cells cs t fr)) (j : Nat) : w.cell? ⟨g, j, none⟩ = cs[j]? := by
 simp [World.cell?, h]
theorem below_two {w : World} {o o' : Obj} : Below w.heap.size w ((w.alloc o).alloc o') := ((Below.refl _ _).alloc (Nat.le_refl _) o).alloc (by simp) o'
def filterO {α : Type} (p : α → Option Bool) : List α → Option (List α)
 | [] => some []
 | x :: l => (p x).bind fun b => (filterO p l).bind fun t => some (if b = true then t else x :: t)
theorem filterO_drop {α : Type} (p : α → Option Bool) (l : List α) (k : Nat) (h : k < l.length) : filterO p (l.drop k) = (p l[k]).bind fun b => (filterO p (l.drop (k + 1))).bind fun t => some (if b = true then t else l[k] :: t) := by
 rw [List.drop_eq_getElem_cons h, filterO]
theorem filterO_idx {α : Type} (p : α → Option Bool) (l r : List α) (h : filterO p l = some r) (k : Nat) :
 (idxO p l k = some (-1) ∧ r = l) ∨ ∃ i rest, i < l.length ∧ idxO p l k = some ((k + i : Nat) : Int) ∧ filterO p (l.drop (i + 1)) = some rest ∧ r = l.take i ++ rest := by
 induction l generalizing k r with
 | nil => exact .inl ⟨rfl, by simpa [filterO] using h.symm⟩
 | cons x l ih =>
  rw [filterO] at h
  cases hp : p x with
  | none => rw [hp] at h; cases h
  | some b =>
   rw [hp] at h
   simp only [Option.bind_some] at h
   cases ht : filterO p l with
   | none => rw [ht] at h; cases h
   | some t =>
    rw [ht] at h
    simp only [Option.bind_some] at h
    injection h with h
    cases b with
    | true =>
     right
     refine ⟨0, t, by simp, ?_, by simpa using ht, by simpa using h.symm⟩
     rw [idxO, hp]
     simp
    | false =>
     simp only [Bool.false_eq_true, if_false] at h
     rcases ih t ht (k + 1) with ⟨h1, h2⟩ | ⟨i, rest, hi, h1, h2, h3⟩
     · left
       refine ⟨?_, by rw [← h, h2]⟩
       rw [idxO, hp]
       simpa using h1
     · right
       refine ⟨i + 1, rest, by simp; omega, ?_, by simpa using h2, by rw [← h, h3]; rfl⟩
       rw [idxO, hp]
       simp only [Option.bind_some, Bool.false_eq_true, if_false, h1]
       congr 2
       omega
theorem filterO_total {α : Type} (p : α → Option Bool) (q : α → Bool) (l : List α) (h : ∀ x ∈ l, p x = some (q x)) : filterO p l = some (l.filter fun x => !q x) := by
 induction l with
 | nil => rfl
 | cons x l ih =>
  rw [filterO, h x (List.mem_cons_self ..), ih (fun y hy => h y (List.mem_cons_of_mem _ hy)), List.filter_cons]
  cases q x <;> simp
theorem blk_setCells {g : Nat} {t : TypeId} : ∀ (vs : List Value) (o : Nat) (w : World) (cs : Array Value), w.heap[g]? = some (.cells cs t (0, 0)) → ∃ cs', (w.setCells g o vs).heap[g]? = some (.cells cs' t (0, 0)) ∧ cs'.size = cs.size ∧ ∀ q, q < o → cs'[q]? = cs[q]?
 | [], _, _, cs, h => ⟨cs, h, rfl, fun _ _ => rfl⟩
 | v :: vs, o, w, cs, h => by
  obtain ⟨cs', h1, h2, h3⟩ := blk_setCells vs (o + 1) _ _ (blk_set h o v)
  refine ⟨cs', h1, by rw [h2]; simp, fun q hq => ?_⟩
  rw [h3 q (by omega), Array.getElem?_setIfInBounds]
  rw [if_neg (by omega)]
def OthersAs (G : Nat) (w w' : World) : Prop := ∀ k, k ≠ G → k < w.heap.size → w'.heap[k]? = w.heap[k]?
theorem OthersAs.refl (G : Nat) (w : World) : OthersAs G w w := fun _ _ _ => rfl
theorem OthersAs.after {G : Nat} {w W W1 : World} (h : OthersAs G w W) (hs : w.heap.size ≤ W.heap.size) (hb : Below W.heap.size W W1) : OthersAs G w W1 := fun k hk hl => (hb.block k (by omega)).trans (h k hk hl)
theorem OthersAs.set {G : Nat} {w W : World} (h : OthersAs G w W) (i : Nat) (u : Value) : OthersAs G w (W.setCell ⟨G, i, none⟩ u) := fun k hk hl => (Below.heap_setCell W ⟨G, i, none⟩ u k hk).trans (h k hk hl)
structure Mid {α : Type} (d : Kd α) (T G : Nat) (ok : Nat → Prop) (n : Nat) (cs : Array Value) (w W : World) (j : Nat) (kept : List α) : Prop where
 cur : ∃ cur : Array Value, W.heap[G]? = some (.cells cur T (0, 0)) ∧ cur.size = cs.size ∧ (∀ (q : Nat), j ≤ q → q < n → cur[q]? = cs[q]?) ∧ ∀ (q : Nat) (x : α), kept[q]? = some x → ∃ c, cur[q]? = some c ∧ Kd.FK d w ok x [c]
 others : OthersAs G w W
 size : w.heap.size ≤ W.heap.size
namespace Mid
variable {α : Type} {d : Kd α} {T G n i j : Nat} {ok : Nat → Prop} {cs : Array Value} {w W W1 : World} {kept : List α}
theorem after (h : Mid d T G ok n cs w W j kept) (hb : Below W.heap.size W W1) : Mid d T G ok n cs w W1 j kept := by
 obtain ⟨⟨cur, h1, h2⟩, ho, hs⟩ := h
 exact ⟨⟨cur, (hb.block _ (zbc h1)).trans h1, h2⟩, ho.after hs hb, Nat.le_trans hs hb.size⟩
theorem skip (h : Mid d T G ok n cs w W j kept) : Mid d T G ok n cs w W (j + 1) kept := by
 obtain ⟨⟨cur, h1, h2, h3, h4⟩, ho, hs⟩ := h
 exact ⟨⟨cur, h1, h2, fun q hq hn => h3 q (by omega) hn, h4⟩, ho, hs⟩
theorem put (h : Mid d T G ok n cs w W j kept) (hi : kept.length < j) (hj : j < n) (hn : n ≤ cs.size) {x : α} {c : Value} (hc : Kd.FK d w ok x [c]) : Mid d T G ok n cs w (W.setCell ⟨G, kept.length, none⟩ c) (j + 1) (kept ++ [x]) := by
 obtain ⟨⟨cur, h1, h2, h3, h4⟩, ho, hs⟩ := h
 refine ⟨⟨cur.setIfInBounds kept.length c, blk_set h1 _ c, by simpa using h2, fun q hq hqn => ?_, fun q y hy => ?_⟩, ho.set _ _, by simpa using hs⟩
 · rw [Array.getElem?_setIfInBounds, if_neg (by omega)]
   exact h3 q (by omega) hqn
 · rcases Nat.lt_trichotomy q kept.length with hq | hq | hq
   · rw [List.getElem?_append_left hq] at hy
     rw [Array.getElem?_setIfInBounds, if_neg (by omega)]
     exact h4 q y hy
   · subst hq
     rw [List.getElem?_append_right (Nat.le_refl _)] at hy
     simp at hy
     subst hy
     refine ⟨c, ?_, hc⟩
     rw [Array.getElem?_setIfInBounds, if_pos rfl, if_pos (by omega)]
   · rw [List.getElem?_append_right (by omega)] at hy
     rw [List.getElem?_eq_none (by simp; omega)] at hy
     cases hy
theorem cell (h : Mid d T G ok n cs w W j kept) (hn : n ≤ cs.size) (hj : j < n) {c : Value} (hc : cs[j]? = some c) : W.cell? ⟨G, j, none⟩ = some c := by
 obtain ⟨⟨cur, h1, h2, h3, h4⟩, ho, hs⟩ := h
 rw [zla h1, h3 j (Nat.le_refl _) hj, hc]
theorem there (h : Mid d T G ok n cs w W j kept) {q : Nat} (hq : q < cs.size) : (W.cell? ⟨G, q, none⟩).isSome = true := by
 obtain ⟨⟨cur, h1, h2, h3, h4⟩, ho, hs⟩ := h
 rw [zla h1, Array.getElem?_eq_getElem (by omega)]
 rfl
theorem free (h : Mid d T G ok n cs w W j kept) (q : Nat) : W.frozen? ⟨G, q, none⟩ = false := by
 obtain ⟨⟨cur, h1, h2, h3, h4⟩, ho, hs⟩ := h
 exact zka h1 q
theorem cleared (h : Mid d T G ok n cs w W j kept) (vs : List Value) : Mid d T G ok 0 cs w (W.setCells G kept.length vs) j kept := by
 obtain ⟨⟨cur, h1, h2, h3, h4⟩, ho, hs⟩ := h
 obtain ⟨cur', g1, g2, g3⟩ := blk_setCells vs kept.length W cur h1
 refine ⟨⟨cur', g1, by omega, fun q _ hq => absurd hq (Nat.not_lt_zero _), fun q x hx => ?_⟩, fun k hk hl => (World.heap_setCells_other W G _ vs (by omega) hk).trans (ho k hk hl), ?_⟩
 · rw [g3 q (List.getElem?_eq_some_iff.1 hx).1]
   exact h4 q x hx
 · have : ∀ (vs : List Value) (o : Nat) (w : World), (w.setCells G o vs).heap.size = w.heap.size := by
     intro vs
     induction vs with
     | nil => intro o w; rfl
     | cons v vs ih => intro o w; exact (ih _ _).trans (by simp)
   rw [this]
   exact hs
theorem reads (h : Mid d T G ok n cs w W j kept) (hd : d.sz = 1) {e base cap : Nat} {ok' : Nat → Prop} (hk : kept.length ≤ cap) (hm : cs.size ≤ 9223372036854775807) (hkc : kept.length ≤ cs.size) (hok : ∀ k, ok k → k < w.heap.size → k ≠ G ∧ ok' k) (hG : ok' G) : Kd.V d e W base ok' (.slice (some ⟨G, 0, none⟩) kept.length cap) kept := by
 obtain ⟨⟨cur, h1, h2, h3, h4⟩, ho, hs⟩ := h
 refine Kd.V_mk hk (fun W' hW => ?_)
 refine ⟨rfl, by omega, fun _ => ⟨⟨G, 0, none⟩, rfl, fun q x hx => ?_⟩⟩
 obtain ⟨c, hc, hf⟩ := h4 q x hx
 refine ⟨[c], hd.symm, ?_, fun i u hu => ?_⟩
 · refine hf W' (fun k hk1 hk2 => ?_)
   obtain ⟨a1, a2⟩ := hok k hk1 hk2
   exact (hW k a2 (by omega)).trans (ho k a1 hk2)
 · have hi : i = 0 := by
     rcases i with _ | i
     · rfl
     · simp at hu
   subst hi
   simp at hu
   subst hu
   rw [hd]
   have hb : W'.heap[G]? = some (.cells cur T (0, 0)) := (hW G hG (zbc h1)).trans h1
   have := zla hb q
   rw [hc] at this
   rw [← this]
   simp only [Addr.add, Nat.zero_add, Nat.mul_one, Nat.add_zero]
   split
   · rename_i h0
     rw [h0]
   · rfl
end Mid
theorem Mid.start {α : Type} {d : Kd α} {e g n cap base : Nat} {ok : Nat → Prop} {w : World} {xs : List α} (h : Kd.N d e w base ok (.slice (some ⟨g, 0, none⟩) n cap) xs) (hd : d.sz = 1) (hp : 0 < xs.length) (i j : Nat) (hij : i ≤ j) :
 ∃ cs : Array Value, n = xs.length ∧ n ≤ cap ∧ n ≤ cs.size ∧ cs.size ≤ 9223372036854775807 ∧ (∀ (q : Nat) (x : α), xs[q]? = some x → ∃ c, cs[q]? = some c ∧ Kd.FK d w (fun k => ok k ∧ k ≠ g) x [c]) ∧ Mid d e g (fun k => ok k ∧ k ≠ g) n cs w w j (xs.take i) := by
 obtain ⟨g', cap', hv, hb, hl, cs, hcs⟩ := Kd.N_form h hp
 injection hv with e1 e2 e3
 injection e1 with e1
 injection e1 with e1
 subst e1
 have hr := Kd.N_reads' h
 have hel : ∀ (q : Nat) (x : α), xs[q]? = some x → ∃ c, cs[q]? = some c ∧ Kd.FK d w (fun k => ok k ∧ k ≠ g) x [c] := by
  intro q x hx
  have hq : q < xs.length := (List.getElem?_eq_some_iff.1 hx).1
  obtain ⟨c, hc1, hc2, hc3, _⟩ := Kd.N_elem h x (q : Int) (by omega) (by omega)
  rw [hd] at hc1 hc3
  obtain ⟨c0, rfl⟩ := List.length_eq_one_iff.1 hc1
  have := hc3 0 c0 rfl
  simp only [Int.toNat_natCast, Nat.mul_one, Nat.add_zero] at this
  rw [zla hcs] at this
  refine ⟨c0, this, ?_⟩
  rw [List.getD_eq_getElem?_getD, Int.toNat_natCast, hx] at hc2
  exact hc2
 have hsz : n ≤ cs.size ∧ cs.size ≤ 9223372036854775807 := by
  obtain ⟨_, rows, hrl, ⟨_, inner, ho, hrp⟩, _⟩ := h
  rcases ho.2 with ⟨hv, _⟩ | ⟨g2, cap2, cur, hv, hb2, hh, hnc, hcm, hcs2, ht⟩
  · cases hv
  · injection hv with a1 a2 a3
    injection a1 with a1
    injection a1 with a1
    subst a1
    rw [hcs] at hh
    injection hh with hh
    injection hh with hh
    subst hh
    rw [hd] at hcs2
    have hz1 : (Kd.raw 1).sz = 1 := rfl
    rw [hz1] at hcs2
    have hmx : maxLen ≤ 9223372036854775807 := by decide
    refine ⟨by omega, by omega⟩
 exact ⟨cs, hr.1, hr.2.1, hsz.1, hsz.2, hel, ⟨⟨cs, hcs, rfl, fun _ _ _ => rfl, fun q x hx => hel q x (by rw [List.getElem?_take] at hx; split at hx <;> first | exact hx | cases hx)⟩, OthersAs.refl _ _, Nat.le_refl _⟩⟩
end Go.Proofs.YtoacbkoenkiahaaGreat.PTopGluePlate
end
section
namespace Go.Proofs.YtoacbkoenkiahaaGreat.PTopGluePlate
open Go.RowKit Go.Proofs.YtoacbkoenkiahaaGreatW.PrintWords Go.Proofs.YtoacbkoenkiahaaGreatW.PrintLast Go.Proofs.YtoacbkoenkiahaaGreatW.PrintMore
attribute [local go_sem] znb zlb zhc zgc zeb zdb zmb zkb
set_option linter.unusedVariables false
set_option linter.unusedSimpArgs false
def zrc.f (a0_0 : Int) (a0_1 : Int) (a0_2 : Int) (a0_3 : Int) : Option (List Int × Int) :=
 if (0 ≤ a0_0 ∧ a0_0 < 256) ∧ (0 ≤ a0_1 ∧ a0_1 < 256) ∧ (0 ≤ a0_2 ∧ a0_2 < 256) ∧ (0 ≤ a0_3 ∧ a0_3 < 256) then
  some ([a0_1 % 2 ^ (3 + a0_0 % 6).toNat, a0_2 % 2 ^ (3 + a0_0 % 6).toNat, a0_3 % 2 ^ (3 + a0_0 % 6).toNat], 3 + a0_0 % 6) else none
theorem zrc.wide (a : Int) (h0 : 0 ≤ a) : wrap64 (2 ^ (3 + a % 6).toNat) = 2 ^ (3 + a % 6).toNat := by
 have h : a % 6 = 0 ∨ a % 6 = 1 ∨ a % 6 = 2 ∨ a % 6 = 3 ∨ a % 6 = 4 ∨ a % 6 = 5 := by omega
 rcases h with h | h | h | h | h | h <;> exact IntWalk.wrap64_in (2 ^ (3 + a % 6).toNat) (by rw [h]; decide)
theorem zrc.some_ (a : Int) : (2 : Int) ^ (3 + a % 6).toNat ≠ 0 := by
 have : (0 : Int) < 2 ^ (3 + a % 6).toNat := Int.pow_pos (by omega)
 omega
theorem zrc.new_ (w : World) (o : Obj) : (w.alloc o).heap[w.heap.size]? = some o := World.alloc_heap_new w o
set_option maxRecDepth 100000 in
set_option maxHeartbeats 4000000 in
theorem zrc.calls (a0_0 : Int) (a0_1 : Int) (a0_2 : Int) (a0_3 : Int) (r1 : List Int) (r2 : Int) (w : World) (h : zrc.f a0_0 a0_1 a0_2 a0_3 = some (r1, r2)) :
 Calls Tryz.prog 4 #[.agg #[.int .u8 a0_0, .int .u8 a0_1, .int .u8 a0_2, .int .u8 a0_3]] w fun e w' => ∃ v0_ : Value, e = .returned (.tuple #[v0_, .int .i64 r2]) ∧ Kd.R (Kd.int .i64) 3 w' w.heap.size (fun _ => True) v0_ r1 ∧ Below w.heap.size w w' := by
 unfold zrc.f at h
 split at h
 case isFalse => cases h
 case isTrue hr =>
 obtain ⟨⟨h0, g0⟩, ⟨h1, g1⟩, ⟨h2, g2⟩, ⟨h3, g3⟩⟩ := hr
 simp only [Option.some.injEq, Prod.mk.injEq] at h
 obtain ⟨rfl, rfl⟩ := h
 have hu22 := Tryz.underlying22
 have e0 : IntKind.i64.wrap a0_0 = a0_0 := IntWalk.i64_in _ ⟨by omega, by omega⟩
 have e1 : IntKind.i64.wrap a0_1 = a0_1 := IntWalk.i64_in _ ⟨by omega, by omega⟩
 have e2 : IntKind.i64.wrap a0_2 = a0_2 := IntWalk.i64_in _ ⟨by omega, by omega⟩
 have e3 : IntKind.i64.wrap a0_3 = a0_3 := IntWalk.i64_in _ ⟨by omega, by omega⟩
 have hD := zrc.wide a0_0 h0
 have hDz := eq_false (zrc.some_ a0_0)
 go_enter Tryz.func4, Tryz.ntmps4
 go_wp2
 have HB0 : zaa (Below w.heap.size w ((w.alloc (.cells #[.int .u8 a0_0, .int .u8 a0_1, .int .u8 a0_2, .int .u8 a0_3] 22)).alloc (.cells #[] 3))) := ⟨((Below.refl _ w).alloc (Nat.le_refl _) _).alloc (by simp) _⟩
 have BK0 : zaa (((w.alloc (.cells #[.int .u8 a0_0, .int .u8 a0_1, .int .u8 a0_2, .int .u8 a0_3] 22)).alloc (.cells #[] 3)).heap[w.heap.size]? = some (.cells #[.int .u8 a0_0, .int .u8 a0_1, .int .u8 a0_2, .int .u8 a0_3] 22 (0, 0))) := ⟨zfa (zrc.new_ _ _) _⟩
 have HO0 : zaa (Kd.R (Kd.int .i64) 3 ((w.alloc (.cells #[.int .u8 a0_0, .int .u8 a0_1, .int .u8 a0_2, .int .u8 a0_3] 22)).alloc (.cells #[] 3)) w.heap.size (fun _ => True) (.slice (some ⟨w.heap.size + 1, 0, none⟩) 0 0) ([] : List Int)) :=
  ⟨Kd.R_of_own ⟨by simp [encs], .inr ⟨w.heap.size + 1, 0, #[], rfl, by omega, (by have := zrc.new_ (w.alloc (.cells #[.int .u8 a0_0, .int .u8 a0_1, .int .u8 a0_2, .int .u8 a0_3] 22)) (.cells #[] 3); simpa using this), by simp, by simp, by simp, by simp [encs]⟩⟩ (fun _ _ => trivial)⟩
 generalize ((w.alloc (.cells #[.int .u8 a0_0, .int .u8 a0_1, .int .u8 a0_2, .int .u8 a0_3] 22)).alloc (.cells #[] 3)) = W0 at HB0 BK0 HO0 ⊢
 generalize (Value.slice (some ⟨w.heap.size + 1, 0, none⟩) 0 0) = u0 at HO0 ⊢
 refine wp_loop_rounds 4 ?_
 rw [rounds_succ]
 have hc1 : W0.cell? ⟨w.heap.size, 1, none⟩ = some (.int .u8 a0_1) := (zla BK0.out 1).trans rfl
 go_wp2_with ((with_reducible refine gate_builtin (b := .append) (xs := #[.tmp 17, .tmp 26]) rfl ?_); at_builtin; refine Kd.R_append (Kd.int .i64) (w0 := w) w.heap.size rfl (.tmp 17) (.tmp 26) 24 3 (.int .i64 0) 8 rfl Tryz.underlying24 info3 rfl (by decide) (by omega) u0 ([] : List Int) (a0_1 % 2 ^ (3 + a0_0 % 6).toNat) [.int .i64 (a0_1 % 2 ^ (3 + a0_0 % 6).toNat)] (fun _ => True) (fun _ => False) rfl rfl ?aP (fun _ hk => hk.elim) ?aF ?aO ?aB ?aS ?aL ?_; (case aP => exact rfl); (case aB => exact HB0.out); (case aF => exact (fun _ _ => trivial)); (case aO => exact HO0.out); (case aS => exact zja HB0.out); (case aL => simp); intro u1 W1 ho hb hg hat; have HO1 := zaa.mk ho; have HB1 := zaa.mk hb; have BK1 := zaa.mk (blk_grown BK0.out hg (Kd.R_ne HO0.out BK0.out (by decide))); clear ho hb hg hat)
 clear hc1
 rw [rounds_succ]
 have hc2 : W1.cell? ⟨w.heap.size, 2, none⟩ = some (.int .u8 a0_2) := (zla BK1.out 2).trans rfl
 go_wp2_with ((with_reducible refine gate_builtin (b := .append) (xs := #[.tmp 17, .tmp 26]) rfl ?_); at_builtin; refine Kd.R_append (Kd.int .i64) (w0 := w) w.heap.size rfl (.tmp 17) (.tmp 26) 24 3 (.int .i64 0) 8 rfl Tryz.underlying24 info3 rfl (by decide) (by omega) u1 (([] : List Int) ++ [(a0_1 % 2 ^ (3 + a0_0 % 6).toNat)]) (a0_2 % 2 ^ (3 + a0_0 % 6).toNat) [.int .i64 (a0_2 % 2 ^ (3 + a0_0 % 6).toNat)] (fun _ => True) (fun _ => False) rfl rfl ?aP (fun _ hk => hk.elim) ?aF ?aO ?aB ?aS ?aL ?_; (case aP => exact rfl); (case aB => exact HB1.out); (case aF => exact (fun _ _ => trivial)); (case aO => exact HO1.out); (case aS => exact zja HB1.out); (case aL => simp); intro u2 W2 ho hb hg hat; have HO2 := zaa.mk ho; have HB2 := zaa.mk hb; have BK2 := zaa.mk (blk_grown BK1.out hg (Kd.R_ne HO1.out BK1.out (by decide))); clear ho hb hg hat)
 clear hc2
 rw [rounds_succ]
 have hc3 : W2.cell? ⟨w.heap.size, 3, none⟩ = some (.int .u8 a0_3) := (zla BK2.out 3).trans rfl
 go_wp2_with ((with_reducible refine gate_builtin (b := .append) (xs := #[.tmp 17, .tmp 26]) rfl ?_); at_builtin; refine Kd.R_append (Kd.int .i64) (w0 := w) w.heap.size rfl (.tmp 17) (.tmp 26) 24 3 (.int .i64 0) 8 rfl Tryz.underlying24 info3 rfl (by decide) (by omega) u2 ((([] : List Int) ++ [(a0_1 % 2 ^ (3 + a0_0 % 6).toNat)]) ++ [(a0_2 % 2 ^ (3 + a0_0 % 6).toNat)]) (a0_3 % 2 ^ (3 + a0_0 % 6).toNat) [.int .i64 (a0_3 % 2 ^ (3 + a0_0 % 6).toNat)] (fun _ => True) (fun _ => False) rfl rfl ?aP (fun _ hk => hk.elim) ?aF ?aO ?aB ?aS ?aL ?_; (case aP => exact rfl); (case aB => exact HB2.out); (case aF => exact (fun _ _ => trivial)); (case aO => exact HO2.out); (case aS => exact zja HB2.out); (case aL => simp); intro u3 W3 ho hb hg hat; have HO3 := zaa.mk ho; have HB3 := zaa.mk hb; have BK3 := zaa.mk (blk_grown BK2.out hg (Kd.R_ne HO2.out BK2.out (by decide))); clear ho hb hg hat)
 clear hc3
 rw [rounds_succ]
 go_wp2
 go_ret2
 exact ⟨_, rfl, HO3.out, HB3.out⟩
end Go.Proofs.YtoacbkoenkiahaaGreat.PTopGluePlate
end
section
namespace Go.Proofs.YtoacbkoenkiahaaGreat.PTopGluePlate
open Go.RowKit Go.Proofs.YtoacbkoenkiahaaGreatW.PrintWords Go.Proofs.YtoacbkoenkiahaaGreatW.PrintLast Go.Proofs.YtoacbkoenkiahaaGreatW.PrintMore
attribute [local go_sem] znb zlb zhc zgc zeb zdb zmb zkb
set_option linter.unusedVariables false
set_option linter.unusedSimpArgs false
def zdc.f (l0 : List Int) : Option (List Int) := (some (([] : List Int) : List Int)).bind fun y101 => (if y101.length + l0.length < 17592186044416 then (some (y101 ++ l0)) else (none))
set_option maxHeartbeats 8000000 in
set_option maxRecDepth 100000 in
theorem zdc.calls (A0 : Option Addr) (c0 : Nat) (l0 : List Int) (r : List Int) (w : World) (hr0 : Kd.C (Kd.int .i64) w A0 l0.length l0) (hc0 : l0.length ≤ c0) (h : zdc.f l0 = some r) :
 Calls Tryz.prog 5 #[.slice A0 l0.length c0] w fun e w' => ∃ v0_ : Value, e = .returned (v0_) ∧ Kd.R (Kd.int .i64) 3 w' w.heap.size (fun _ => True) v0_ r ∧ Below w.heap.size w w' := by
 have HR0 := zaa.mk hr0
 have HC0 := zaa.mk hc0
 clear hr0 hc0
 have HB := zaa.mk (Below.refl w.heap.size w)
 have H : ((some (([] : List Int) : List Int)).bind fun y101 => (if y101.length + l0.length < 17592186044416 then (some (y101 ++ l0)) else (none))) = some r := h
 clear h
 obtain ⟨y101, hy101⟩ : ∃ y_ : List Int, y_ = (([] : List Int)) := ⟨_, rfl⟩
 replace H : (if y101.length + l0.length < 17592186044416 then (some (y101 ++ l0)) else (none)) = some r := by first | (rw [hy101]; with_reducible exact H) | (have H2_ := (Option.bind_some _ _).symm.trans H; rw [hy101]; with_reducible exact H2_) | (have H2_ := (Option.bind_some _ _).symm.trans H; with_reducible exact H2_) | with_reducible exact H | (rw [hy101]; exact H) | exact H
 have Ny101 := zaa.mk hy101
 clear hy101
 by_cases c2 : y101.length + l0.length < 17592186044416
 · rw [if_pos c2] at H
   have LMc2 := zaa.mk c2
   clear c2
   obtain ⟨y104, hy104⟩ : ∃ y_ : List Int, y_ = (y101 ++ l0) := ⟨_, rfl⟩
   replace H : (some y104) = some r := by first | (rw [hy104]; with_reducible exact H) | (have H2_ := (Option.bind_some _ _).symm.trans H; rw [hy104]; with_reducible exact H2_) | (have H2_ := (Option.bind_some _ _).symm.trans H; with_reducible exact H2_) | with_reducible exact H | (rw [hy104]; exact H) | exact H
   have Ny104 := zaa.mk hy104
   clear hy104
   obtain rfl := Option.some.inj H
   go_enter Tryz.func5, Tryz.ntmps5
   go_wp2_with (first | ((with_reducible refine zbb (N := 3) rfl ?_); refine Kd.R_lit (Kd.int .i64) _ 3 ?hg (N := 3) ?hd (xs := ([] : List Int)) (inner := []) (ok := fun _ => True) (okp := fun _ => True) ?hr ?hp (fun _ hk => hk) trivial (Below.refl _ _) (Nat.le_refl _) (by simp) ?_; (case hd => rfl); (case hg => rfl); (case hr => first | (go_simp; done) | (go_simp; rfl)); (case hp => exact (Reps.none _ _)); intro v102 w3 ho4 hb hg_ hnew_; clear hg_ hnew_; (first | rw [← Ny101.out] at ho4 | (simp only [Int.reduceToNat] at ho4; rw [← Ny101.out] at ho4)); have HO103 := zaa.mk (Kd.znd ho4 (zja (by repeat (first | (with_reducible first | exact HB.out | apply zda | apply zba | apply zca) | exact HB.out)))); replace HB := zaa.mk (zma (by repeat (first | (with_reducible first | exact HB.out | apply zda | apply zba | apply zca) | exact HB.out)) hb); clear hb ho4) | ((with_reducible refine gate_builtin (b := .append) (xs := #[.tmp 3, .tmp 4]) rfl ?_); at_builtin; refine Kd.R_append_rows (Kd.int .i64) (w0 := w) w.heap.size rfl (.tmp 3) (.tmp 4) 24 3 (.int .i64 0) 8 rfl Tryz.underlying24 info3 rfl (by decide) (by omega) v102 y101 l0 _ _ _ (fun _ => True) (fun _ => False) rfl rfl ?aO ?aR (fun _ _ h => h) (fun _ h => h.elim) ?aF ?aB ?aS ?aL ?_; (case aR => repeat (first | exact (Kd.zkc HR0.out HB.out) | (with_reducible refine Kd.zrb ?_ _) | (with_reducible refine Kd.zqb ?_ _) | (with_reducible refine Kd.zmc ?_))); (case aB => exact (by repeat (first | (with_reducible first | exact HB.out | apply zda | apply zba | apply zca) | exact HB.out))); (case aF => exact (fun _ _ => trivial)); (case aO => exact (by (with_reducible repeat (first | apply Kd.zqa | apply Kd.zpa | apply Kd.zsa)); exact HO103.out)); (case aS => exact (zja (by repeat (first | (with_reducible first | exact HB.out | apply zda | apply zba | apply zca) | exact HB.out)))); (case aL => have := LMc2.out; omega); intro v105 w5 ho hb hg hat; rw [← Ny104.out] at ho; replace HB := zaa.mk (hb); have HO106 := zaa.mk (ho); clear HO103; clear ho hb hg hat))
   go_ret
   exact ⟨_, by first | rfl | (simp [zwa, zva] <;> rfl) | (simp [*, zwa, zva] <;> rfl), by (with_reducible repeat (first | apply Kd.zqa | apply Kd.zpa | apply Kd.zsa)); exact HO106.out, by repeat (first | (with_reducible first | exact HB.out | apply zda | apply zba | apply zca) | exact HB.out)⟩
 · rw [if_neg c2] at H
   exact absurd H (by simp)
end Go.Proofs.YtoacbkoenkiahaaGreat.PTopGluePlate
end
section
namespace Go.Proofs.YtoacbkoenkiahaaGreat.PTopGluePlate
open Go.RowKit Go.Proofs.YtoacbkoenkiahaaGreatW.PrintWords Go.Proofs.YtoacbkoenkiahaaGreatW.PrintLast Go.Proofs.YtoacbkoenkiahaaGreatW.PrintMore
attribute [local go_sem] znb zlb zhc zgc zeb zdb zmb zkb
set_option linter.unusedVariables false
set_option linter.unusedSimpArgs false
def Pred_int_66 (P : Program) (g : Nat) (lb : Array Value) (l : List Int) (p : Int → Option Bool) (w : World) : Prop :=
 ∀ (W : World) (x : Int), x ∈ l → Below w.heap.size w W → ∀ b, p x = some b → Calls P g (#[.int .i64 x] ++ lb) W fun e w' => e = .returned (.bool b) ∧ Below W.heap.size W w'
set_option maxHeartbeats 2000000 in
set_option maxRecDepth 100000 in
theorem slices_IndexFunc_int.calls (g : Nat) (lb : Array Value) (p : Int → Option Bool) (A0 : Option Addr) (c0 : Nat) (l0 : List Int) (r : Int) (w : World) (hr0 : Kd.C (Kd.int .i64) w A0 l0.length l0) (hc0 : l0.length ≤ c0)
    (eg : ∀ args w, (callFunc g args).run Tryz.prog w = .ok (.enter g args) w) (hp : Pred_int_66 Tryz.prog g lb l0 p w) (h : idxO p l0 0 = some r) :
    Calls Tryz.prog 66 #[.slice A0 l0.length c0, .func (.func g) #[] lb] w fun e w' => e = .returned (.int .i64 r) ∧ Below w.heap.size w w' := by
  have HR0 := zaa.mk hr0
  have HB := zaa.mk (Below.refl w.heap.size w)
  have HP := zaa.mk hp
  have HH := zaa.mk h
  have hlen : l0.length ≤ 9223372036854775807 := hr0.2.1
  clear hr0 hc0 hp h
  go_enter Tryz.func66, Tryz.ntmps66
  go_wp2
  go_loopw [8] (fun v8 wr => ∃ kk : Nat, kk ≤ l0.length ∧ v8 = .int .i64 kk ∧ zaa (idxO p (l0.drop kk) kk = some r) ∧ zaa (Below w.heap.size w wr)) (fun v8 _ => l0.length - (intOf v8).toNat)
  case atStart => exact ⟨0, Nat.zero_le _, rfl, ⟨by simpa using HH.out⟩, HB⟩
  case round =>
    obtain ⟨kk, hkk, rfl, HI, HW⟩ := hrel
    by_cases hlt : kk < l0.length
    · have hlz : (kk : Int) < (l0.length : Int) := by omega
      obtain ⟨ad, e0, hx⟩ := Kd.at_int (Kd.zkc HR0.out HW.out) (kk : Int) (by omega) hlz
      cases e0
      rw [rd_nat l0 kk hlt] at hx
      simp only [Int.toNat_natCast] at hx
      have hcall := HP.out wr l0[kk] (List.getElem_mem hlt) HW.out
      have hd := HI.out
      rw [idxO_drop p l0 kk hlt] at hd
      have HD := zaa.mk hd
      clear hd HI
      generalize l0[kk] = y at hx hcall HD
      have HC := zaa.mk hcall
      clear hcall
      cases hq : p y with
      | none => exact absurd HD.out (by rw [hq]; simp)
      | some b =>
        have HC2 := zaa.mk (HC.out b hq)
        clear HC
        cases b with
        | true =>
          go_wp2_with (go_at_fn g; refine HC2.out.mono ?_; rintro e w' ⟨rfl, hb'⟩; have HB' := zaa.mk hb'; clear hb')
          go_ret
          refine ⟨?_, zma HW.out HB'.out⟩
          have h1 := HD.out
          rw [hq] at h1
          have h2 : (kk : Int) = r := by simpa using h1
          rw [← h2]; rfl
        | false =>
          have HI : zaa (idxO p (l0.drop (kk + 1)) (kk + 1) = some r) := ⟨by have h1 := HD.out; rw [hq] at h1; simpa using h1⟩
          go_wp2_with (go_at_fn g; refine HC2.out.mono ?_; rintro e w' ⟨rfl, hb'⟩; have HB' := zaa.mk hb'; clear hb')
          go_roundw
          case rel => exact ⟨kk + 1, by omega, by go_num, HI, ⟨zma HW.out HB'.out⟩⟩
          case measure => simp [intOf]; omega
    · obtain rfl : kk = l0.length := by omega
      go_wp2
      go_ret
      have h1 := HI.out
      rw [List.drop_length] at h1
      exact ⟨by have h2 : (-1 : Int) = r := (by simpa [idxO] using h1); rw [← h2]; rfl, HW.out⟩
end Go.Proofs.YtoacbkoenkiahaaGreat.PTopGluePlate
end
section
namespace Go.Proofs.YtoacbkoenkiahaaGreat.PTopGluePlate
open Go.RowKit Go.Proofs.YtoacbkoenkiahaaGreatW.PrintWords Go.Proofs.YtoacbkoenkiahaaGreatW.PrintLast Go.Proofs.YtoacbkoenkiahaaGreatW.PrintMore
attribute [local go_sem] znb zlb zhc zgc zeb zdb zmb zkb
set_option linter.unusedVariables false
set_option linter.unusedSimpArgs false
def Pred_int_44 (P : Program) (g : Nat) (lb : Array Value) (l : List Int) (p : Int → Option Bool) (w : World) : Prop :=
 ∀ (W : World) (x : Int), x ∈ l → Below w.heap.size w W → ∀ b, p x = some b → Calls P g (#[.int .i64 x] ++ lb) W fun e w' => e = .returned (.bool b) ∧ Below W.heap.size W w'
set_option maxHeartbeats 1000000 in
theorem slices_ContainsFunc_int.calls (g : Nat) (lb : Array Value) (p : Int → Option Bool) (A0 : Option Addr) (c0 : Nat) (l0 : List Int) (r : Bool) (w : World) (hr0 : Kd.C (Kd.int .i64) w A0 l0.length l0) (hc0 : l0.length ≤ c0)
 (eg : ∀ args w, (callFunc g args).run Tryz.prog w = .ok (.enter g args) w) (hp : Pred_int_44 Tryz.prog g lb l0 p w) (h : containsO p l0 = some r) :
 Calls Tryz.prog 44 #[.slice A0 l0.length c0, .func (.func g) #[] lb] w fun e w' => e = .returned (.bool r) ∧ Below w.heap.size w w' := by
 obtain ⟨x, hx, hxr⟩ := containsO_idx p l0 r h
 have H := zaa.mk (slices_IndexFunc_int.calls g lb p A0 c0 l0 x w hr0 hc0 eg hp hx)
 have HX := zaa.mk hxr
 clear hr0 hc0 hp h hx hxr
 go_enter Tryz.func44, Tryz.ntmps44
 go_wp2_with (go_at_call 66; refine H.out.mono ?_; rintro e w' ⟨rfl, hb'⟩; have HB' := zaa.mk hb'; clear hb')
 go_ret
 exact ⟨by rw [← HX.out]; rfl, HB'.out⟩
end Go.Proofs.YtoacbkoenkiahaaGreat.PTopGluePlate
end
section
namespace Go.Proofs.YtoacbkoenkiahaaGreat.PTopGluePlate
open Go.RowKit Go.Proofs.YtoacbkoenkiahaaGreatW.PrintWords Go.Proofs.YtoacbkoenkiahaaGreatW.PrintLast Go.Proofs.YtoacbkoenkiahaaGreatW.PrintMore
attribute [local go_sem] znb zlb zhc zgc zeb zdb zmb zkb
set_option linter.unusedVariables false
set_option linter.unusedSimpArgs false
set_option maxHeartbeats 1000000 in
theorem glue_within_1.calls (x lo hi : Int) (a b : Addr) (w : World) (ha : w.cell? a = some (.int .i64 lo)) (hb : w.cell? b = some (.int .i64 hi)) :
 Calls Tryz.prog 63 #[.int .i64 x, .pointer (some a), .pointer (some b)] w fun e w' => e = .returned (.bool (decide (x < lo) || decide (hi < x))) ∧ w = w' := by
 by_cases h1 : x < lo
 · have h1' : decide (x < lo) = true := by simpa using h1
   go_enter Tryz.func63, Tryz.ntmps63
   go_wp2
   go_ret
   exact ⟨by simp [h1], rfl⟩
 · have h1' : decide (x < lo) = false := by simpa using h1
   go_enter Tryz.func63, Tryz.ntmps63
   go_wp2
   go_ret
   exact ⟨by simp [h1], rfl⟩
end Go.Proofs.YtoacbkoenkiahaaGreat.PTopGluePlate
end
section
namespace Go.Proofs.YtoacbkoenkiahaaGreat.PTopGluePlate
open Go.RowKit Go.Proofs.YtoacbkoenkiahaaGreatW.PrintWords Go.Proofs.YtoacbkoenkiahaaGreatW.PrintLast Go.Proofs.YtoacbkoenkiahaaGreatW.PrintMore
attribute [local go_sem] znb zlb zhc zgc zeb zdb zmb zkb
set_option linter.unusedVariables false
set_option linter.unusedSimpArgs false
def znc.f (a0 a1 : Int) (l2 : List Int) : Option Bool := some (l2.all fun n => decide (a0 ≤ n) && decide (n ≤ a1))
set_option maxHeartbeats 1000000 in
theorem znc.calls (a0 : Int) (a1 : Int) (A2 : Option Addr) (c2 : Nat) (l2 : List Int) (r : Bool) (w : World) (hr2 : Kd.C (Kd.int .i64) w A2 l2.length l2) (hc2 : l2.length ≤ c2) (h : znc.f a0 a1 l2 = some r) :
 Calls Tryz.prog 34 #[.int .i64 a0, .int .i64 a1, .slice A2 l2.length c2] w fun e w' => e = .returned (.bool r) ∧ Below w.heap.size w w' := by
 obtain rfl := Option.some.inj h
 have eg : ∀ args w, (callFunc 63 args).run Tryz.prog w = .ok (.enter 63 args) w := enters_of Tryz.func63 (by kernel_rfl) rfl
 have HB := zaa.mk (below_two (w := w) (o := .cells #[.int .i64 a0] 3) (o' := .cells #[.int .i64 a1] 3))
 have H := zaa.mk (slices_ContainsFunc_int.calls 63 #[.pointer (some ⟨w.heap.size, 0, none⟩), .pointer (some ⟨w.heap.size + 1, 0, none⟩)] (fun x => some (decide (x < a0) || decide (a1 < x))) A2 c2 l2 _ ((w.alloc (.cells #[.int .i64 a0] 3)).alloc (.cells #[.int .i64 a1] 3)) (Kd.zkc hr2 HB.out) hc2 eg (by
  intro W x hx hW b hb
  obtain rfl := Option.some.inj hb
  refine (glue_within_1.calls x a0 a1 ⟨w.heap.size, 0, none⟩ ⟨w.heap.size + 1, 0, none⟩ W ?_ ?_).mono ?_
  · rw [hW.cell (by simp; omega)]; simp
  · rw [hW.cell (by simp)]; simp
  · rintro e w' ⟨rfl, rfl⟩; exact ⟨rfl, Below.refl _ _⟩) (containsO_total _ (fun x => decide (x < a0) || decide (a1 < x)) l2 (fun _ _ => rfl)))
 have HE : zaa ((!(l2.any fun x => decide (x < a0) || decide (a1 < x))) = (l2.all fun n => decide (a0 ≤ n) && decide (n ≤ a1))) := ⟨by
  rw [List.not_any_eq_all_not]; congr 1; funext x; rw [Bool.not_or, ← decide_not, ← decide_not]; simp⟩
 clear hr2 hc2 h
 generalize (l2.any fun x => decide (x < a0) || decide (a1 < x)) = q at H HE
 go_enter Tryz.func34, Tryz.ntmps34
 go_wp2_with (go_at_call 44; refine H.out.mono ?_; rintro e w' ⟨rfl, hb'⟩; have HB' := zaa.mk hb'; clear hb')
 go_ret
 exact ⟨by rw [← HE.out]; rfl, zma HB.out HB'.out⟩
end Go.Proofs.YtoacbkoenkiahaaGreat.PTopGluePlate
end
section
namespace Go.Proofs.YtoacbkoenkiahaaGreat.PTopGluePlate
open Go.RowKit Go.Proofs.YtoacbkoenkiahaaGreatW.PrintWords Go.Proofs.YtoacbkoenkiahaaGreatW.PrintLast Go.Proofs.YtoacbkoenkiahaaGreatW.PrintMore
attribute [local go_sem] znb zlb zhc zgc zeb zdb zmb zkb
set_option linter.unusedVariables false
set_option linter.unusedSimpArgs false
def zzd.f (l0 : List Int) : Option (Bool) := (znc.f 0 1000 l0).bind fun t114 => (some t114)
set_option maxHeartbeats 8000000 in
set_option maxRecDepth 100000 in
theorem zzd.calls (A0 : Option Addr) (c0 : Nat) (l0 : List Int) (r : Bool) (w : World) (hr0 : Kd.C (Kd.int .i64) w A0 l0.length l0) (hc0 : l0.length ≤ c0) (h : zzd.f l0 = some r) :
 Calls Tryz.prog 16 #[.slice A0 l0.length c0] w fun e w' => e = .returned (.bool r) ∧ Below w.heap.size w w' := by
 have HR0 := zaa.mk hr0
 have HC0 := zaa.mk hc0
 clear hr0 hc0
 have HB := zaa.mk (Below.refl w.heap.size w)
 have H : ((znc.f 0 1000 l0).bind fun t114 => (some t114)) = some r := h
 clear h
 replace H := Option.bind_eq_some_iff.mp H
 obtain ⟨t114, A20, H⟩ := H
 replace H : (some t114) = some r := H
 have A2 := zaa.mk A20
 clear A20
 obtain rfl := Option.some.inj H
 go_enter Tryz.func16, Tryz.ntmps16
 go_wp2_with (first | ((with_reducible refine zxa (f := 34) rfl ?_); refine zhd (some 4) rfl rfl Tryz.func34 (by kernel_rfl) rfl #[.int .i64 0, .int .i64 1000, .slice A0 l0.length c0] rfl (by (try simp only [List.map_toArray, List.map_cons, List.map_nil]); first | done | rfl | (simp only [List.length_drop, List.length_take]; rfl)) ?_; (with_reducible refine (znc.calls 0 1000 _ _ l0 t114 _ ?side1 ?side2 A2.out).mono ?_); (case side1 => repeat (first | exact HR0.out | (with_reducible refine Kd.zrb ?_ _) | (with_reducible refine Kd.zqb ?_ _) | (with_reducible refine Kd.zmc ?_))); (case side2 => exact HC0.out); rintro e w3 ⟨rfl, hb⟩; refine ⟨_, rfl, ?_⟩; replace HB := zaa.mk (zma (by repeat (first | (with_reducible first | exact HB.out | apply zda | apply zba | apply zca) | exact HB.out)) hb); (try clear hb); (try clear hb2); (try clear hk); (try clear hi)))
 go_ret
 exact ⟨by first | rfl | (simp [zwa, zva] <;> rfl) | (simp [*, zwa, zva] <;> rfl), by repeat (first | (with_reducible first | exact HB.out | apply zda | apply zba | apply zca) | exact HB.out)⟩
end Go.Proofs.YtoacbkoenkiahaaGreat.PTopGluePlate
end
section
namespace Go.Proofs.YtoacbkoenkiahaaGreat.PTopGluePlate
open Go.RowKit Go.Proofs.YtoacbkoenkiahaaGreatW.PrintWords Go.Proofs.YtoacbkoenkiahaaGreatW.PrintLast Go.Proofs.YtoacbkoenkiahaaGreatW.PrintMore
attribute [local go_sem] znb zlb zhc zgc zeb zdb zmb zkb
set_option linter.unusedVariables false
set_option linter.unusedSimpArgs false
def glue_open.f (a0_0 : Int) (l0_1 : List Int) : Option (Int × List Int × Int) := (znc.f 1 16 (([a0_0] : List Int))).bind fun t112 => (if t112 = true then (if (l0_1.length : Int) > 6 then (none) else (if (l0_1.length : Int) = 0 then (none) else (if 0 ≤ a0_0 then ((znc.f 0 (wrap64 ((shl .i64 1 a0_0) - 1)) l0_1).bind fun t113 => (if t113 = true then (some (a0_0, l0_1, 0)) else (none))) else (none)))) else (none))
def glue_open.T7 : Bool × List (List Nat × List Nat) := (true, [([], []), ([0], [0]), ([1], [1]), ([2], [2]), ([], []), ([4], [4]), ([3, 5], [3, 5]), ([6], [6]), ([7, 6], [7])])
def glue_open.B7 : List Nat := [0, 1, 3, 7, 0, 16, 63, 127, 255]
theorem glue_open.tab7 : rtab .any (opsOf Tryz.f32 7) = glue_open.T7 := by kernel_rfl
theorem glue_open.bits7 : waitsOk glue_open.T7.2 glue_open.B7 = true := by kernel_rfl
set_option maxHeartbeats 8000000 in
set_option maxRecDepth 100000 in
theorem glue_open.calls (a0_0 : Int) (P0_1_ : Nat → Prop) (A0_1 : Option Addr) (c0_1 : Nat) (l0_1 : List Int) (r1 : Int) (r2 : List Int) (r3 : Int) (w : World) (hs0_1 : Kd.V (Kd.int .i64) 3 w w.heap.size (fun k_ => P0_1_ k_) (.slice A0_1 l0_1.length c0_1) l0_1) (h : glue_open.f a0_0 l0_1 = some (r1, r2, r3)) :
 Calls Tryz.prog 32 #[.agg #[.int .i64 a0_0, .slice A0_1 l0_1.length c0_1]] w fun e w' => ∃ v1_ : Value, e = .returned (.tuple #[.agg #[.int .i64 r1, v1_], .int .i64 r3]) ∧ Kd.V (Kd.int .i64) 3 w' w.heap.size (fun k_ => (P0_1_ k_ ∨ w.heap.size ≤ k_)) v1_ r2 ∧ Below w.heap.size w w' := by
 have hu29 := Tryz.underlying29
 have hu66 := Tryz.underlying66
 have HO0_1 := zaa.mk (show Kd.V (Kd.int .i64) 3 w w.heap.size (fun k_ => (P0_1_ k_ ∨ w.heap.size ≤ k_)) (.slice A0_1 l0_1.length c0_1) l0_1 from Kd.zcc hs0_1 (fun k_ hk => .inl hk))
 have HB := zaa.mk (Below.refl w.heap.size w)
 have H : ((znc.f 1 16 (([a0_0] : List Int))).bind fun t112 => (if t112 = true then (if (l0_1.length : Int) > 6 then (none) else (if (l0_1.length : Int) = 0 then (none) else (if 0 ≤ a0_0 then ((znc.f 0 (wrap64 ((shl .i64 1 a0_0) - 1)) l0_1).bind fun t113 => (if t113 = true then (some (a0_0, l0_1, 0)) else (none))) else (none)))) else (none))) = some (r1, r2, r3) := h
 clear h
 obtain ⟨y109, hy109⟩ : ∃ y_ : List Int, y_ = (([a0_0] : List Int)) := ⟨_, rfl⟩
 replace H : ((znc.f 1 16 y109).bind fun t112 => (if t112 = true then (if (l0_1.length : Int) > 6 then (none) else (if (l0_1.length : Int) = 0 then (none) else (if 0 ≤ a0_0 then ((znc.f 0 (wrap64 ((shl .i64 1 a0_0) - 1)) l0_1).bind fun t113 => (if t113 = true then (some (a0_0, l0_1, 0)) else (none))) else (none)))) else (none))) = some (r1, r2, r3) := by first | (rw [hy109]; with_reducible exact H) | (have H2_ := (Option.bind_some _ _).symm.trans H; rw [hy109]; with_reducible exact H2_) | (have H2_ := (Option.bind_some _ _).symm.trans H; with_reducible exact H2_) | with_reducible exact H | (rw [hy109]; exact H) | exact H
 have Ny109 := zaa.mk hy109
 clear hy109
 replace H := Option.bind_eq_some_iff.mp H
 obtain ⟨t112, A20, H⟩ := H
 replace H : (if t112 = true then (if (l0_1.length : Int) > 6 then (none) else (if (l0_1.length : Int) = 0 then (none) else (if 0 ≤ a0_0 then ((znc.f 0 (wrap64 ((shl .i64 1 a0_0) - 1)) l0_1).bind fun t113 => (if t113 = true then (some (a0_0, l0_1, 0)) else (none))) else (none)))) else (none)) = some (r1, r2, r3) := H
 have A2 := zaa.mk A20
 clear A20
 by_cases c3 : t112 = true
 · subst c3
   have H1 : (if (l0_1.length : Int) > 6 then (none) else (if (l0_1.length : Int) = 0 then (none) else (if 0 ≤ a0_0 then ((znc.f 0 (wrap64 ((shl .i64 1 a0_0) - 1)) l0_1).bind fun t113 => (if t113 = true then (some (a0_0, l0_1, 0)) else (none))) else (none)))) = some (r1, r2, r3) := by rw [if_pos rfl] at H; exact H
   clear H
   have H := H1
   clear H1
   by_cases c4 : (l0_1.length : Int) > 6
   · rw [if_pos c4] at H
     have c4b0 : decide (6 < (l0_1.length : Int)) = true := decide_eq_true c4
     have c4b1 : decide (6 < l0_1.length) = true := decide_eq_true (by omega)
     clear c4
     exact absurd H (by simp)
   · rw [if_neg c4] at H
     have c4b0 : decide (6 < (l0_1.length : Int)) = false := decide_eq_false c4
     have c4b1 : decide (6 < l0_1.length) = false := decide_eq_false (by omega)
     clear c4
     by_cases c5 : (l0_1.length : Int) = 0
     · rw [if_pos c5] at H
       have c5b0 : ((l0_1.length : Int) == 0) = true := beq_iff_eq.mpr c5
       have c5b1 : ((l0_1.length : Int) != 0) = false := bne_eq_false_iff_eq.mpr c5
       clear c5
       exact absurd H (by simp)
     · rw [if_neg c5] at H
       have c5b0 : ((l0_1.length : Int) == 0) = false := beq_eq_false_iff_ne.mpr c5
       have c5b1 : ((l0_1.length : Int) != 0) = true := bne_iff_ne.mpr c5
       have c5b2 : ¬ (l0_1 = []) := fun h_ => c5 (by rw [h_]; rfl)
       by_cases c6 : 0 ≤ a0_0
       · rw [if_pos c6] at H
         have c6b0 := eq_true c6
         have c6b1 : decide (0 ≤ a0_0) = true := decide_eq_true c6
         clear c6
         obtain ⟨ji7, hji7⟩ : ∃ j_ : Int, (shl .i64 1 a0_0) = j_ := ⟨_, rfl⟩
         replace H : ((znc.f 0 (wrap64 ((ji7) - 1)) l0_1).bind fun t113 => (if t113 = true then (some (a0_0, l0_1, 0)) else (none))) = some (r1, r2, r3) := by first | (rw [hji7] at H; exact H) | (simp only [hji7] at H ⊢; exact H)
         (try rw [hji7] at A2)
         have hji7_ : (IntKind.i64.wrap (1 * 2 ^ min a0_0.toNat 64)) = ji7 := hji7
         have hji7z : a0_0 ≤ 64 → (IntKind.i64.wrap (1 * 2 ^ a0_0.toNat)) = ji7 := shl_small hji7
         have hji7u : (IntKind.i64.wrap (2 ^ min a0_0.toNat 64)) = ji7 := by have h_ := hji7_; rw [Int.one_mul] at h_; exact h_
         have hji7v : a0_0 ≤ 64 → (IntKind.i64.wrap (2 ^ a0_0.toNat)) = ji7 := fun hle_ => by have h_ := hji7z hle_; rw [Int.one_mul] at h_; exact h_
         have hji7y : (wrap64 (1 * 2 ^ min a0_0.toNat 64)) = ji7 := (zpb _).symm.trans hji7_
         have hji7x : a0_0 ≤ 64 → (wrap64 (1 * 2 ^ a0_0.toNat)) = ji7 := fun h_ => (zpb _).symm.trans (hji7z h_)
         replace H := Option.bind_eq_some_iff.mp H
         obtain ⟨t113, A80, H⟩ := H
         replace H : (if t113 = true then (some (a0_0, l0_1, 0)) else (none)) = some (r1, r2, r3) := H
         have A8 := zaa.mk A80
         clear A80
         by_cases c9 : t113 = true
         · subst c9
           have H1 : (some (a0_0, l0_1, 0)) = some (r1, r2, r3) := by rw [if_pos rfl] at H; exact H
           clear H
           have H := H1
           clear H1
           simp only [Option.some.injEq, Prod.mk.injEq] at H
           obtain ⟨rfl, rfl, rfl⟩ := H
           go_enter Tryz.func32, Tryz.ntmps32
           try go_wp2_with (first | ((with_reducible refine zbb (N := 1) rfl ?_); refine zob ?hg (N := 1) ?hd (cs := #[.int .i64 a0_0, .slice A0_1 l0_1.length c0_1]) (t := 29) ?hr ?_; (case hd => rfl); (case hg => rfl); (case hr => first | (go_simp; done) | (go_simp; rfl)); intro gb107 hg w10 hbox hb; replace HO0_1 := zaa.mk (Kd.zqc (Kd.zld (by (with_reducible repeat (first | apply Kd.zza | apply Kd.zya | apply Kd.zib)); exact HO0_1.out) gb107 (Nat.le_of_eq hg.symm)) hb); have BK107 := zaa.mk (hbox); have GW107 := zaa.mk ((by rw [hg]; exact (zja (by repeat (first | (with_reducible first | exact HB.out | apply zda | apply zba | apply zca) | exact HB.out))) : w.heap.size ≤ gb107)); have GE107 := zaa.mk ((by rw [hg]; exact (zja (by repeat (first | (with_reducible first | exact HB.out | apply zda | apply zba | apply zca) | exact HB.out))) : w.heap.size ≤ gb107)); replace HB := zaa.mk (zma (by repeat (first | (with_reducible first | exact HB.out | apply zda | apply zba | apply zca) | exact HB.out)) hb); clear hb hbox hg) | ((with_reducible refine zbb (N := 2) rfl ?_); refine zob ?hg (N := 2) ?hd (cs := #[.int .i64 0, .slice none 0 0]) (t := 66) ?hr ?_; (case hd => rfl); (case hg => rfl); (case hr => first | (go_simp; done) | (go_simp; rfl)); intro gb108 hg w11 hbox hb; replace HO0_1 := zaa.mk (Kd.zqc (Kd.zld (by (with_reducible repeat (first | apply Kd.zza | apply Kd.zya | apply Kd.zib)); exact HO0_1.out) gb108 (Nat.le_of_eq hg.symm)) hb); have BK108 := zaa.mk (hbox); have GW108 := zaa.mk ((by rw [hg]; exact (zja (by repeat (first | (with_reducible first | exact HB.out | apply zda | apply zba | apply zca | refine zea ?_ GE107.out) | exact HB.out))) : w.heap.size ≤ gb108)); have GE108 := zaa.mk ((by rw [hg]; exact (zja (by repeat (first | (with_reducible first | exact HB.out | apply zda | apply zba | apply zca | refine zea ?_ GE107.out) | exact HB.out))) : w.heap.size ≤ gb108)); replace HB := zaa.mk (zma (by repeat (first | (with_reducible first | exact HB.out | apply zda | apply zba | apply zca | refine zea ?_ GE107.out) | exact HB.out)) hb); have NB107_108 := zaa.mk ((by rw [hg]; exact Nat.ne_of_lt (zbc (g := gb107) (o := .cells #[.int .i64 a0_0, .slice A0_1 l0_1.length c0_1] 29 (0, 0)) (by (with_reducible repeat (first | refine zga ?_ _ | refine zha ?_ | refine zfa ?_ _)); exact BK107.out)) : gb107 ≠ gb108)); have NB108_107 := zaa.mk ((by rw [hg]; exact Nat.ne_of_gt (zbc (g := gb107) (o := .cells #[.int .i64 a0_0, .slice A0_1 l0_1.length c0_1] 29 (0, 0)) (by (with_reducible repeat (first | refine zga ?_ _ | refine zha ?_ | refine zfa ?_ _)); exact BK107.out)) : gb108 ≠ gb107)); replace BK107 := zaa.mk (zna (g := gb107) (o := .cells #[.int .i64 a0_0, .slice A0_1 l0_1.length c0_1] 29 (0, 0)) (by (with_reducible repeat (first | refine zga ?_ _ | refine zha ?_ | refine zfa ?_ _)); exact BK107.out) hb); clear hb hbox hg; have hnb12 := NB107_108.out; have hnc12 := NB108_107.out; have hcz13_0 : w11.cell? ⟨gb107, 0, none⟩ = some (.int .i64 a0_0) := (zla BK107.out 0).trans rfl; have hcz13_1 : w11.cell? ⟨gb107, 1, none⟩ = some (.slice A0_1 l0_1.length c0_1) := (zla BK107.out 1).trans rfl; have hfz13_0 := zka BK107.out 0; have hfz13_1 := zka BK107.out 1) | ((with_reducible refine zbb (N := 7) rfl ?_); refine Kd.R_lit (Kd.int .i64) _ 3 ?hg (N := 7) ?hd (xs := ([a0_0] : List Int)) (inner := [.int .i64 a0_0]) (ok := fun _ => True) (okp := fun _ => True) ?hr ?hp (fun _ hk => hk) trivial (Below.refl _ _) (Nat.le_refl _) (by simp) ?_; (case hd => rfl); (case hg => rfl); (case hr => first | (go_simp; done) | (go_simp; rfl)); (case hp => exact (Reps.one (show Kd.M (Kd.int .i64) _ _ _ a0_0 [.int .i64 a0_0] from rfl) (Reps.none _ _))); intro v110 w14 ho15 hb hg_ hnew_; clear hg_ hnew_; (first | rw [← Ny109.out] at ho15 | (simp only [Int.reduceToNat] at ho15; rw [← Ny109.out] at ho15)); replace HO0_1 := zaa.mk (Kd.V_elder' (by (with_reducible repeat (first | apply Kd.zza | apply Kd.zya | apply Kd.zib)); exact HO0_1.out) (Kd.zxd ho15) hb); have HO111 := zaa.mk (Kd.znd (Kd.R_newM (M := fun k_ => (w.heap.size ≤ k_)) ho15 (zja (by repeat (first | (with_reducible first | exact HB.out | apply zda | apply zba | apply zca | refine zea ?_ GE107.out | refine zea ?_ GE108.out) | exact HB.out))) (fun k_ h_ => h_)) (zja (by repeat (first | (with_reducible first | exact HB.out | apply zda | apply zba | apply zca | refine zea ?_ GE107.out | refine zea ?_ GE108.out) | exact HB.out)))); replace BK107 := zaa.mk (zna (g := gb107) (o := .cells #[.int .i64 a0_0, .slice A0_1 l0_1.length c0_1] 29 (0, 0)) (by (with_reducible repeat (first | refine zga ?_ _ | refine zha ?_ | refine zfa ?_ _)); exact BK107.out) hb); replace BK108 := zaa.mk (zna (g := gb108) (o := .cells #[.int .i64 0, .slice none 0 0] 66 (0, 0)) (by (with_reducible repeat (first | refine zga ?_ _ | refine zha ?_ | refine zfa ?_ _)); exact BK108.out) hb); replace HB := zaa.mk (zma (by repeat (first | (with_reducible first | exact HB.out | apply zda | apply zba | apply zca | refine zea ?_ GE107.out | refine zea ?_ GE108.out) | exact HB.out)) hb); clear hb ho15; obtain ⟨Ao16, co16, eo16⟩ := Kd.zfd HO111.out; subst eo16) | ((with_reducible refine zxa (f := 34) rfl ?_); refine zhd (some 8) rfl rfl Tryz.func34 (by kernel_rfl) rfl #[.int .i64 1, .int .i64 16, .slice Ao16 y109.length co16] rfl (by (try simp only [List.map_toArray, List.map_cons, List.map_nil]); first | done | rfl | (simp only [List.length_drop, List.length_take]; rfl)) ?_; (with_reducible refine (znc.calls 1 16 _ _ y109 true _ ?side1 ?side2 A2.out).mono ?_); (case side1 => repeat (first | exact (Kd.zgb HO111.out).2.2 | (with_reducible refine Kd.zrb ?_ _) | (with_reducible refine Kd.zqb ?_ _) | (with_reducible refine Kd.zmc ?_))); (case side2 => exact (Kd.zgb HO111.out).2.1); rintro e w17 ⟨rfl, hb⟩; refine ⟨_, rfl, ?_⟩; replace HO0_1 := zaa.mk (Kd.zqc (by (with_reducible repeat (first | apply Kd.zza | apply Kd.zya | apply Kd.zib)); exact HO0_1.out) hb); replace HO111 := zaa.mk (Kd.zcb (by (with_reducible repeat (first | apply Kd.zqa | apply Kd.zpa | apply Kd.zsa)); exact HO111.out) hb); replace BK107 := zaa.mk (zna (g := gb107) (o := .cells #[.int .i64 a0_0, .slice A0_1 l0_1.length c0_1] 29 (0, 0)) (by (with_reducible repeat (first | refine zga ?_ _ | refine zha ?_ | refine zfa ?_ _)); exact BK107.out) hb); replace BK108 := zaa.mk (zna (g := gb108) (o := .cells #[.int .i64 0, .slice none 0 0] 66 (0, 0)) (by (with_reducible repeat (first | refine zga ?_ _ | refine zha ?_ | refine zfa ?_ _)); exact BK108.out) hb); replace HB := zaa.mk (zma (by repeat (first | (with_reducible first | exact HB.out | apply zda | apply zba | apply zca | refine zea ?_ GE107.out | refine zea ?_ GE108.out) | exact HB.out)) hb); (try clear hb); (try clear hb2); (try clear hk); (try clear hi); have hcz18_0 : w17.cell? ⟨gb107, 0, none⟩ = some (.int .i64 a0_0) := (zla BK107.out 0).trans rfl; have hcz18_1 : w17.cell? ⟨gb107, 1, none⟩ = some (.slice A0_1 l0_1.length c0_1) := (zla BK107.out 1).trans rfl; have hfz18_0 := zka BK107.out 0; have hfz18_1 := zka BK107.out 1))
           replace HO0_1 := zaa.mk (Kd.zib HO0_1.out)
           replace HO111 := zaa.mk (Kd.zsa HO111.out)
           replace BK107 := zaa.mk (zha BK107.out)
           replace BK108 := zaa.mk (zha BK108.out)
           replace HB := zaa.mk (zca HB.out)
           refine start_ (n := 9) (S := fun w' => w'.cell? ⟨gb107, 0, none⟩ = some (.int .i64 a0_0) ∧ w'.cell? ⟨gb107, 1, none⟩ = some (.slice A0_1 l0_1.length c0_1)) (ds := []) #[false, false, false, false, false, false, false, false, false] (by kernel_rfl) rfl rfl ⟨(zla BK107.out 0).trans rfl, (zla BK107.out 1).trans rfl⟩ (fun hHeld => ?_); refine with_tabW glue_open.tab7 glue_open.bits7 (fun HT_ HW_ => ?_)
           generalize w17.drew = w19 at HO0_1 HO111 BK107 BK108 HB hHeld ⊢
           refine zxc (i := 0) (N := some 24) (v := ?_) (a' := ?_) #[true, false, false, false, false, false, false, false, false] rfl rfl (zyb HT_.out (by kernel_rfl)) (fun _ _ _ h => h) (Or.inl ⟨by rfl, ?_⟩) ?_ ?_
           rotate_left
           · intro w'
             go_simp
             with_reducible rfl
           rotate_left
           · simp only [Act.put, List.setIfInBounds_toArray, List.set_cons_zero, List.set_cons_succ, zpb, zzb]
             rfl
           refine zxc (i := 4) (N := some 28) (v := ?_) (a' := ?_) #[true, false, false, false, true, false, false, false, false] rfl rfl (zyb HT_.out (by kernel_rfl)) (fun _ _ _ h => h) (Or.inl ⟨by rfl, ?_⟩) ?_ ?_
           rotate_left
           · intro w'
             go_simp
             with_reducible rfl
           rotate_left
           · simp only [Act.put, List.setIfInBounds_toArray, List.set_cons_zero, List.set_cons_succ, zpb, zzb]
             rfl
           refine take_ (i := 1) (N := some 25) (v := ?_) (a' := ?_) #[true, true, false, false, true, false, false, false, false] rfl rfl (zge HT_.out HW_.out (by kernel_rfl)) (fun _ _ _ h => h) (Or.inl ⟨by rfl, ?_⟩) hHeld ?_ ?_
           rotate_left
           · rintro w' ⟨s0, s1⟩
             go_simp
             with_reducible rfl
           rotate_left
           · simp only [Act.put, List.setIfInBounds_toArray, List.set_cons_zero, List.set_cons_succ, zpb, zzb]
             rfl
           refine zxc (i := 2) (N := some 26) (v := ?_) (a' := ?_) #[true, true, true, false, true, false, false, false, false] rfl rfl (zyb HT_.out (by kernel_rfl)) (fun _ _ _ h => h) (Or.inl ⟨by rfl, ?_⟩) ?_ ?_
           rotate_left
           · intro w'
             go_simp
             with_reducible rfl
           rotate_left
           · simp only [Act.put, List.setIfInBounds_toArray, List.set_cons_zero, List.set_cons_succ, zpb, zzb]
             rfl
           refine zxc (i := 3) (N := some 27) (v := ?_) (a' := ?_) #[true, true, true, true, true, false, false, false, false] rfl rfl (zyb HT_.out (by kernel_rfl)) (fun _ _ _ h => h) (Or.inl ⟨by rfl, ?_⟩) ?_ ?_
           rotate_left
           · intro w'
             go_simp
             with_reducible rfl
           rotate_left
           · simp only [Act.put, List.setIfInBounds_toArray, List.set_cons_zero, List.set_cons_succ, zpb, zzb]
             rfl
           refine take_ (i := 5) (N := some 29) (v := ?_) (a' := ?_) #[true, true, true, true, true, true, false, false, false] rfl rfl (zge HT_.out HW_.out (by kernel_rfl)) (fun _ _ _ h => h) (Or.inl ⟨by rfl, ?_⟩) hHeld ?_ ?_
           rotate_left
           · rintro w' ⟨s0, s1⟩
             go_simp
             with_reducible rfl
           rotate_left
           · simp only [Act.put, List.setIfInBounds_toArray, List.set_cons_zero, List.set_cons_succ, zpb, zzb]
             rfl
           refine one_ (i := 6) (N := some 30) #[true, true, true, true, true, true, true, false, false] rfl rfl (one_of HT_.out (by kernel_rfl)) (by decide) (fun K hK => ?_)
           refine goes_ Tryz.func34 (by kernel_rfl) rfl #[.int .i64 0, .int .i64 (wrap64 ((ji7) - 1)), .slice A0_1 l0_1.length c0_1] (by rfl) rfl rfl (by (try simp only [List.map_toArray, List.map_cons, List.map_nil]); first | done | (simp only [hji7]; rfl) | rfl | (simp only [List.length_drop, List.length_take]; rfl)) ?_
           with_reducible refine (znc.calls 0 (wrap64 ((ji7) - 1)) _ _ l0_1 true _ ?side1 ?side2 A8.out).mono ?_
           (case side1 => repeat (first | exact (Kd.zwd HO0_1.out).2.2 | (with_reducible refine Kd.zrb ?_ _) | (with_reducible refine Kd.zqb ?_ _) | (with_reducible refine Kd.zmc ?_)))
           (case side2 => exact (Kd.zwd HO0_1.out).2.1)
           rintro e w20 ⟨rfl, hb⟩
           refine ⟨_, rfl, ?_⟩
           replace HO0_1 := zaa.mk (Kd.zqc (by (with_reducible repeat (first | apply Kd.zza | apply Kd.zya | apply Kd.zib)); exact HO0_1.out) hb)
           replace HO111 := zaa.mk (Kd.zcb (by (with_reducible repeat (first | apply Kd.zqa | apply Kd.zpa | apply Kd.zsa)); exact HO111.out) hb)
           replace BK107 := zaa.mk (zna (g := gb107) (o := .cells #[.int .i64 a0_0, .slice A0_1 l0_1.length c0_1] 29 (0, 0)) (by (with_reducible repeat (first | refine zga ?_ _ | refine zha ?_ | refine zfa ?_ _)); exact BK107.out) hb)
           replace BK108 := zaa.mk (zna (g := gb108) (o := .cells #[.int .i64 0, .slice none 0 0] 66 (0, 0)) (by (with_reducible repeat (first | refine zga ?_ _ | refine zha ?_ | refine zfa ?_ _)); exact BK108.out) hb)
           replace HB := zaa.mk (zma (by repeat (first | (with_reducible first | exact HB.out | apply zda | apply zba | apply zca | refine zea ?_ GE107.out | refine zea ?_ GE108.out) | exact HB.out)) hb)
           (try clear hb)
           (try clear hb2)
           (try clear hk)
           (try clear hi)
           refine hK.out _ _ ⟨(zla BK107.out 0).trans rfl, (zla BK107.out 1).trans rfl⟩ (fun hHeld => ?_)
           clear hK K
           refine norm_ (a' := ?_) ?_ ?_
           rotate_left
           · show Act.put _ (some 30) _ = _
             simp only [Act.put, List.setIfInBounds_toArray, List.set_cons_zero, List.set_cons_succ, zpb, zzb]
             rfl
           refine zxc (i := 7) (N := some 31) (v := ?_) (a' := ?_) #[true, true, true, true, true, true, true, true, false] rfl rfl (zyb HT_.out (by kernel_rfl)) (fun _ _ _ h => h) (Or.inl ⟨by rfl, ?_⟩) ?_ ?_
           rotate_left
           · intro w'
             go_simp
             with_reducible rfl
           rotate_left
           · simp only [Act.put, List.setIfInBounds_toArray, List.set_cons_zero, List.set_cons_succ, zpb, zzb]
             rfl
           refine zxc (i := 8) (N := some 23) (v := ?_) (a' := ?_) #[true, true, true, true, true, true, true, true, true] rfl rfl (zyb HT_.out (by kernel_rfl)) (fun _ _ _ h => h) (Or.inl ⟨by rfl, ?_⟩) ?_ ?_
           rotate_left
           · intro w'
             go_simp
             with_reducible rfl
           rotate_left
           · simp only [Act.put, List.setIfInBounds_toArray, List.set_cons_zero, List.set_cons_succ, zpb, zzb]
             rfl
           refine done_ (done_of HT_.out (by kernel_rfl)) ?_
           have hcz21_0 : w20.cell? ⟨gb107, 0, none⟩ = some (.int .i64 a0_0) := (zla BK107.out 0).trans rfl
           have hcz21_1 : w20.cell? ⟨gb107, 1, none⟩ = some (.slice A0_1 l0_1.length c0_1) := (zla BK107.out 1).trans rfl
           have hfz21_0 := zka BK107.out 0
           have hfz21_1 := zka BK107.out 1
           have hcz22_0 : w20.cell? ⟨gb108, 0, none⟩ = some (.int .i64 0) := (zla BK108.out 0).trans rfl
           have hcz22_1 : w20.cell? ⟨gb108, 1, none⟩ = some (.slice none 0 0) := (zla BK108.out 1).trans rfl
           have hfz22_0 := zka BK108.out 0
           have hfz22_1 := zka BK108.out 1
           try go_wp2
           refine bodyPost_ret (results_ct rfl _ _ gb108 66 #[.int .i64 a0_0, .slice A0_1 l0_1.length c0_1] (0, 0) _ rfl (by (with_reducible repeat (first | refine zga ?_ _ | refine zha ?_ | refine zfa ?_ _)); refine zzc (cs := #[.int .i64 a0_0, .slice none 0 0]) ?_ 1 _ rfl; (with_reducible repeat (first | refine zga ?_ _ | refine zha ?_ | refine zfa ?_ _)); refine zzc (cs := #[.int .i64 0, .slice none 0 0]) ?_ 0 _ rfl; (with_reducible repeat (first | refine zga ?_ _ | refine zha ?_ | refine zfa ?_ _)); exact BK108.out) Tryz.underlying66 rfl (by kernel_rfl)) rfl ?_
           exact ⟨_, by first | rfl | (simp [zwa, zva] <;> rfl) | (simp only [← hji7]; first | rfl | (simp [zwa, zva] <;> rfl)) | (simp [*, zwa, zva] <;> rfl), by (with_reducible repeat (first | apply Kd.zza | apply Kd.zya | apply Kd.zib)); exact Kd.zcc (Kd.zbe (p := ⟨gb108, 1, none⟩) (Kd.zbe (p := ⟨gb108, 0, none⟩) (Kd.zcc HO0_1.out (fun k_ hk => (⟨hk, hk.1.2⟩ : _ ∧ k_ ≠ gb108))) (fun _ hk => hk.2) (.int .i64 a0_0)) (fun _ hk => hk.2) (.slice A0_1 l0_1.length c0_1)) (fun _ hk => hk.1.1.1.1), by repeat (first | (with_reducible first | exact HB.out | apply zda | apply zba | apply zca | refine zea ?_ GE107.out | refine zea ?_ GE108.out) | exact HB.out)⟩
         · replace c9 := Bool.eq_false_iff.mpr c9
           subst c9
           have H1 : (none) = some (r1, r2, r3) := by rw [if_neg (show ¬ (false = true) by decide)] at H; exact H
           clear H
           have H := H1
           clear H1
           exact absurd H (by simp)
       · rw [if_neg c6] at H
         exact absurd H (by simp)
 · replace c3 := Bool.eq_false_iff.mpr c3
   subst c3
   have H1 : (none) = some (r1, r2, r3) := by rw [if_neg (show ¬ (false = true) by decide)] at H; exact H
   clear H
   have H := H1
   clear H1
   exact absurd H (by simp)
end Go.Proofs.YtoacbkoenkiahaaGreat.PTopGluePlate
end
section
namespace Go.Proofs.YtoacbkoenkiahaaGreat.PTopGluePlate
open Go.RowKit Go.Proofs.YtoacbkoenkiahaaGreatW.PrintWords Go.Proofs.YtoacbkoenkiahaaGreatW.PrintLast Go.Proofs.YtoacbkoenkiahaaGreatW.PrintMore
attribute [local go_sem] znb zlb zhc zgc zeb zdb zmb zkb
set_option linter.unusedVariables false
set_option linter.unusedSimpArgs false
def zpd.f (a0_0 : Int) (l0_1 : List Int) (a1 : Int) : Option (Bool) := (znc.f 0 (wrap64 ((l0_1.length : Int) - 1)) (([a1] : List Int))).bind fun t119 => (some t119)
set_option maxHeartbeats 8000000 in
set_option maxRecDepth 100000 in
theorem zpd.calls (a0_0 : Int) (A0_1 : Option Addr) (c0_1 : Nat) (l0_1 : List Int) (a1 : Int) (r : Bool) (w : World) (hr0_1 : Kd.C (Kd.int .i64) w A0_1 l0_1.length l0_1) (hc0_1 : l0_1.length ≤ c0_1) (h : zpd.f a0_0 l0_1 a1 = some r) :
 Calls Tryz.prog 68 #[.agg #[.int .i64 a0_0, .slice A0_1 l0_1.length c0_1], .int .i64 a1] w fun e w' => e = .returned (.bool r) ∧ Below w.heap.size w w' := by
 have hu66 := Tryz.underlying66
 have HR0_1 := zaa.mk hr0_1
 have HC0_1 := zaa.mk hc0_1
 clear hr0_1 hc0_1
 have HB := zaa.mk (Below.refl w.heap.size w)
 have H : ((znc.f 0 (wrap64 ((l0_1.length : Int) - 1)) (([a1] : List Int))).bind fun t119 => (some t119)) = some r := h
 clear h
 obtain ⟨y116, hy116⟩ : ∃ y_ : List Int, y_ = (([a1] : List Int)) := ⟨_, rfl⟩
 replace H : ((znc.f 0 (wrap64 ((l0_1.length : Int) - 1)) y116).bind fun t119 => (some t119)) = some r := by first | (rw [hy116]; with_reducible exact H) | (have H2_ := (Option.bind_some _ _).symm.trans H; rw [hy116]; with_reducible exact H2_) | (have H2_ := (Option.bind_some _ _).symm.trans H; with_reducible exact H2_) | with_reducible exact H | (rw [hy116]; exact H) | exact H
 have Ny116 := zaa.mk hy116
 clear hy116
 replace H := Option.bind_eq_some_iff.mp H
 obtain ⟨t119, A30, H⟩ := H
 replace H : (some t119) = some r := H
 have A3 := zaa.mk A30
 clear A30
 obtain rfl := Option.some.inj H
 go_enter Tryz.func68, Tryz.ntmps68
 go_wp2_with (first | ((with_reducible refine zbb (N := 2) rfl ?_); refine zob ?hg (N := 2) ?hd (cs := #[.int .i64 a0_0, .slice A0_1 l0_1.length c0_1]) (t := 66) ?hr ?_; (case hd => rfl); (case hg => rfl); (case hr => first | (go_simp; done) | (go_simp; rfl)); intro gb115 hg w4 hbox hb; have BK115 := zaa.mk (hbox); have GW115 := zaa.mk ((by rw [hg]; exact (zja (by repeat (first | (with_reducible first | exact HB.out | apply zda | apply zba | apply zca) | exact HB.out))) : w.heap.size ≤ gb115)); have GE115 := zaa.mk ((by rw [hg]; exact (zja (by repeat (first | (with_reducible first | exact HB.out | apply zda | apply zba | apply zca) | exact HB.out))) : w.heap.size ≤ gb115)); replace HB := zaa.mk (zma (by repeat (first | (with_reducible first | exact HB.out | apply zda | apply zba | apply zca) | exact HB.out)) hb); clear hb hbox hg; have hcz5_0 : w4.cell? ⟨gb115, 0, none⟩ = some (.int .i64 a0_0) := (zla BK115.out 0).trans rfl; have hcz5_1 : w4.cell? ⟨gb115, 1, none⟩ = some (.slice A0_1 l0_1.length c0_1) := (zla BK115.out 1).trans rfl; have hfz5_0 := zka BK115.out 0; have hfz5_1 := zka BK115.out 1) | ((with_reducible refine zbb (N := 11) rfl ?_); refine Kd.R_lit (Kd.int .i64) _ 3 ?hg (N := 11) ?hd (xs := ([a1] : List Int)) (inner := [.int .i64 a1]) (ok := fun _ => True) (okp := fun _ => True) ?hr ?hp (fun _ hk => hk) trivial (Below.refl _ _) (Nat.le_refl _) (by simp) ?_; (case hd => rfl); (case hg => rfl); (case hr => first | (go_simp; done) | (go_simp; rfl)); (case hp => exact (Reps.one (show Kd.M (Kd.int .i64) _ _ _ a1 [.int .i64 a1] from rfl) (Reps.none _ _))); intro v117 w6 ho7 hb hg_ hnew_; clear hg_ hnew_; (first | rw [← Ny116.out] at ho7 | (simp only [Int.reduceToNat] at ho7; rw [← Ny116.out] at ho7)); have HO118 := zaa.mk (Kd.znd ho7 (zja (by repeat (first | (with_reducible first | exact HB.out | apply zda | apply zba | apply zca | refine zea ?_ GE115.out) | exact HB.out)))); replace BK115 := zaa.mk (zna (g := gb115) (o := .cells #[.int .i64 a0_0, .slice A0_1 l0_1.length c0_1] 66 (0, 0)) (by (with_reducible repeat (first | refine zga ?_ _ | refine zha ?_ | refine zfa ?_ _)); exact BK115.out) hb); replace HB := zaa.mk (zma (by repeat (first | (with_reducible first | exact HB.out | apply zda | apply zba | apply zca | refine zea ?_ GE115.out) | exact HB.out)) hb); clear hb ho7; obtain ⟨Ao8, co8, eo8⟩ := Kd.zfd HO118.out; subst eo8) | ((with_reducible refine zxa (f := 34) rfl ?_); refine zhd (some 12) rfl rfl Tryz.func34 (by kernel_rfl) rfl #[.int .i64 0, .int .i64 (wrap64 ((l0_1.length : Int) - 1)), .slice Ao8 y116.length co8] rfl (by (try simp only [List.map_toArray, List.map_cons, List.map_nil]); first | done | rfl | (simp only [List.length_drop, List.length_take]; rfl)) ?_; (with_reducible refine (znc.calls 0 (wrap64 ((l0_1.length : Int) - 1)) _ _ y116 t119 _ ?side1 ?side2 A3.out).mono ?_); (case side1 => repeat (first | exact (Kd.zgb HO118.out).2.2 | (with_reducible refine Kd.zrb ?_ _) | (with_reducible refine Kd.zqb ?_ _) | (with_reducible refine Kd.zmc ?_))); (case side2 => exact (Kd.zgb HO118.out).2.1); rintro e w9 ⟨rfl, hb⟩; refine ⟨_, rfl, ?_⟩; replace HO118 := zaa.mk (Kd.zcb (by (with_reducible repeat (first | apply Kd.zqa | apply Kd.zpa | apply Kd.zsa)); exact HO118.out) hb); replace BK115 := zaa.mk (zna (g := gb115) (o := .cells #[.int .i64 a0_0, .slice A0_1 l0_1.length c0_1] 66 (0, 0)) (by (with_reducible repeat (first | refine zga ?_ _ | refine zha ?_ | refine zfa ?_ _)); exact BK115.out) hb); replace HB := zaa.mk (zma (by repeat (first | (with_reducible first | exact HB.out | apply zda | apply zba | apply zca | refine zea ?_ GE115.out) | exact HB.out)) hb); (try clear hb); (try clear hb2); (try clear hk); (try clear hi)))
 go_ret
 exact ⟨by first | rfl | (simp [zwa, zva] <;> rfl) | (simp [*, zwa, zva] <;> rfl), by repeat (first | (with_reducible first | exact HB.out | apply zda | apply zba | apply zca | refine zea ?_ GE115.out) | exact HB.out)⟩
end Go.Proofs.YtoacbkoenkiahaaGreat.PTopGluePlate
end
section
namespace Go.Proofs.YtoacbkoenkiahaaGreat.PTopGluePlate
open Go.RowKit Go.Proofs.YtoacbkoenkiahaaGreatW.PrintWords Go.Proofs.YtoacbkoenkiahaaGreatW.PrintLast Go.Proofs.YtoacbkoenkiahaaGreatW.PrintMore
attribute [local go_sem] znb zlb zhc zgc zeb zdb zmb zkb
set_option linter.unusedVariables false
set_option linter.unusedSimpArgs false
def glue_plan_isCause.f (a0_0 : Int) (l0_1 : List Int) (a1_0 : Int) (a1_1 : Int) (a1_2 : Int) : Option (Bool) := (zpd.f a0_0 l0_1 a1_0).bind fun t122 => (if t122 = true then ((znc.f 1 4 (([a1_1] : List Int))).bind fun t126 => (if t126 = true then ((zzd.f (([a1_2] : List Int))).bind fun t130 => (some t130)) else (none))) else (none))
set_option maxHeartbeats 8000000 in
set_option maxRecDepth 100000 in
theorem glue_plan_isCause.calls (a0_0 : Int) (A0_1 : Option Addr) (c0_1 : Nat) (l0_1 : List Int) (a1_0 : Int) (a1_1 : Int) (a1_2 : Int) (r : Bool) (w : World) (hr0_1 : Kd.C (Kd.int .i64) w A0_1 l0_1.length l0_1) (hc0_1 : l0_1.length ≤ c0_1) (h : glue_plan_isCause.f a0_0 l0_1 a1_0 a1_1 a1_2 = some r) :
 Calls Tryz.prog 61 #[.agg #[.int .i64 a0_0, .slice A0_1 l0_1.length c0_1], .agg #[.int .i64 a1_0, .int .i64 a1_1, .int .i64 a1_2]] w fun e w' => e = .returned (.bool r) ∧ Below w.heap.size w w' := by
 have hu66 := Tryz.underlying66
 have hu32 := Tryz.underlying32
 have HR0_1 := zaa.mk hr0_1
 have HC0_1 := zaa.mk hc0_1
 clear hr0_1 hc0_1
 have HB := zaa.mk (Below.refl w.heap.size w)
 have H : ((zpd.f a0_0 l0_1 a1_0).bind fun t122 => (if t122 = true then ((znc.f 1 4 (([a1_1] : List Int))).bind fun t126 => (if t126 = true then ((zzd.f (([a1_2] : List Int))).bind fun t130 => (some t130)) else (none))) else (none))) = some r := h
 clear h
 replace H := Option.bind_eq_some_iff.mp H
 obtain ⟨t122, A30, H⟩ := H
 replace H : (if t122 = true then ((znc.f 1 4 (([a1_1] : List Int))).bind fun t126 => (if t126 = true then ((zzd.f (([a1_2] : List Int))).bind fun t130 => (some t130)) else (none))) else (none)) = some r := H
 have A3 := zaa.mk A30
 clear A30
 by_cases c4 : t122 = true
 · subst c4
   have H1 : ((znc.f 1 4 (([a1_1] : List Int))).bind fun t126 => (if t126 = true then ((zzd.f (([a1_2] : List Int))).bind fun t130 => (some t130)) else (none))) = some r := by rw [if_pos rfl] at H; exact H
   clear H
   have H := H1
   clear H1
   obtain ⟨y123, hy123⟩ : ∃ y_ : List Int, y_ = (([a1_1] : List Int)) := ⟨_, rfl⟩
   replace H : ((znc.f 1 4 y123).bind fun t126 => (if t126 = true then ((zzd.f (([a1_2] : List Int))).bind fun t130 => (some t130)) else (none))) = some r := by first | (rw [hy123]; with_reducible exact H) | (have H2_ := (Option.bind_some _ _).symm.trans H; rw [hy123]; with_reducible exact H2_) | (have H2_ := (Option.bind_some _ _).symm.trans H; with_reducible exact H2_) | with_reducible exact H | (rw [hy123]; exact H) | exact H
   have Ny123 := zaa.mk hy123
   clear hy123
   replace H := Option.bind_eq_some_iff.mp H
   obtain ⟨t126, A50, H⟩ := H
   replace H : (if t126 = true then ((zzd.f (([a1_2] : List Int))).bind fun t130 => (some t130)) else (none)) = some r := H
   have A5 := zaa.mk A50
   clear A50
   by_cases c6 : t126 = true
   · subst c6
     have H1 : ((zzd.f (([a1_2] : List Int))).bind fun t130 => (some t130)) = some r := by rw [if_pos rfl] at H; exact H
     clear H
     have H := H1
     clear H1
     obtain ⟨y127, hy127⟩ : ∃ y_ : List Int, y_ = (([a1_2] : List Int)) := ⟨_, rfl⟩
     replace H : ((zzd.f y127).bind fun t130 => (some t130)) = some r := by first | (rw [hy127]; with_reducible exact H) | (have H2_ := (Option.bind_some _ _).symm.trans H; rw [hy127]; with_reducible exact H2_) | (have H2_ := (Option.bind_some _ _).symm.trans H; with_reducible exact H2_) | with_reducible exact H | (rw [hy127]; exact H) | exact H
     have Ny127 := zaa.mk hy127
     clear hy127
     replace H := Option.bind_eq_some_iff.mp H
     obtain ⟨t130, A70, H⟩ := H
     replace H : (some t130) = some r := H
     have A7 := zaa.mk A70
     clear A70
     obtain rfl := Option.some.inj H
     go_enter Tryz.func61, Tryz.ntmps61
     go_wp2_with (first | ((with_reducible refine zbb (N := 2) rfl ?_); (try (refine zid (by rfl) ?_; dsimp only)); refine zob ?hg (N := 2) ?hd (cs := #[.int .i64 a0_0, .slice A0_1 l0_1.length c0_1]) (t := 66) ?hr ?_; (case hd => rfl); (case hg => rfl); (case hr => first | (go_simp; done) | (go_simp; rfl)); intro gb120 hg w8 hbox hb; have BK120 := zaa.mk (hbox); have GW120 := zaa.mk ((by rw [hg]; exact (zja (by repeat (first | (with_reducible first | exact HB.out | apply zda | apply zba | apply zca) | exact HB.out))) : w.heap.size ≤ gb120)); have GE120 := zaa.mk ((by rw [hg]; exact (zja (by repeat (first | (with_reducible first | exact HB.out | apply zda | apply zba | apply zca) | exact HB.out))) : w.heap.size ≤ gb120)); replace HB := zaa.mk (zma (by repeat (first | (with_reducible first | exact HB.out | apply zda | apply zba | apply zca) | exact HB.out)) hb); clear hb hbox hg) | ((with_reducible refine zbb (N := 3) rfl ?_); (try (refine zid (by rfl) ?_; dsimp only)); refine zob ?hg (N := 3) ?hd (cs := #[.int .i64 a1_0, .int .i64 a1_1, .int .i64 a1_2]) (t := 32) ?hr ?_; (case hd => rfl); (case hg => rfl); (case hr => first | (go_simp; done) | (go_simp; rfl)); intro gb121 hg w9 hbox hb; have BK121 := zaa.mk (hbox); have GW121 := zaa.mk ((by rw [hg]; exact (zja (by repeat (first | (with_reducible first | exact HB.out | apply zda | apply zba | apply zca | refine zea ?_ GE120.out) | exact HB.out))) : w.heap.size ≤ gb121)); have GE121 := zaa.mk ((by rw [hg]; exact (zja (by repeat (first | (with_reducible first | exact HB.out | apply zda | apply zba | apply zca | refine zea ?_ GE120.out) | exact HB.out))) : w.heap.size ≤ gb121)); replace HB := zaa.mk (zma (by repeat (first | (with_reducible first | exact HB.out | apply zda | apply zba | apply zca | refine zea ?_ GE120.out) | exact HB.out)) hb); have NB120_121 := zaa.mk ((by rw [hg]; exact Nat.ne_of_lt (zbc (g := gb120) (o := .cells #[.int .i64 a0_0, .slice A0_1 l0_1.length c0_1] 66 (0, 0)) (by (with_reducible repeat (first | refine zga ?_ _ | refine zha ?_ | refine zfa ?_ _)); exact BK120.out)) : gb120 ≠ gb121)); have NB121_120 := zaa.mk ((by rw [hg]; exact Nat.ne_of_gt (zbc (g := gb120) (o := .cells #[.int .i64 a0_0, .slice A0_1 l0_1.length c0_1] 66 (0, 0)) (by (with_reducible repeat (first | refine zga ?_ _ | refine zha ?_ | refine zfa ?_ _)); exact BK120.out)) : gb121 ≠ gb120)); replace BK120 := zaa.mk (zna (g := gb120) (o := .cells #[.int .i64 a0_0, .slice A0_1 l0_1.length c0_1] 66 (0, 0)) (by (with_reducible repeat (first | refine zga ?_ _ | refine zha ?_ | refine zfa ?_ _)); exact BK120.out) hb); clear hb hbox hg; have hnb10 := NB120_121.out; have hnc10 := NB121_120.out; have hcz11_0 : w9.cell? ⟨gb120, 0, none⟩ = some (.int .i64 a0_0) := (zla BK120.out 0).trans rfl; have hcz11_1 : w9.cell? ⟨gb120, 1, none⟩ = some (.slice A0_1 l0_1.length c0_1) := (zla BK120.out 1).trans rfl; have hfz11_0 := zka BK120.out 0; have hfz11_1 := zka BK120.out 1; have hcz12_0 : w9.cell? ⟨gb121, 0, none⟩ = some (.int .i64 a1_0) := (zla BK121.out 0).trans rfl; have hcz12_1 : w9.cell? ⟨gb121, 1, none⟩ = some (.int .i64 a1_1) := (zla BK121.out 1).trans rfl; have hcz12_2 : w9.cell? ⟨gb121, 2, none⟩ = some (.int .i64 a1_2) := (zla BK121.out 2).trans rfl; have hfz12_0 := zka BK121.out 0; have hfz12_1 := zka BK121.out 1; have hfz12_2 := zka BK121.out 2) | ((with_reducible refine zxa (f := 68) rfl ?_); refine zhd (some 8) rfl rfl Tryz.func68 (by kernel_rfl) rfl #[.agg #[.int .i64 a0_0, .slice A0_1 l0_1.length c0_1], .int .i64 a1_0] rfl (by (try simp only [List.map_toArray, List.map_cons, List.map_nil]); first | done | rfl | (simp only [List.length_drop, List.length_take]; rfl)) ?_; (with_reducible refine (zpd.calls a0_0 _ _ l0_1 a1_0 true _ ?side1 ?side2 A3.out).mono ?_); (case side1 => repeat (first | exact (Kd.zkc HR0_1.out HB.out) | (with_reducible refine Kd.zrb ?_ _) | (with_reducible refine Kd.zqb ?_ _) | (with_reducible refine Kd.zmc ?_))); (case side2 => exact HC0_1.out); rintro e w13 ⟨rfl, hb⟩; refine ⟨_, rfl, ?_⟩; replace BK120 := zaa.mk (zna (g := gb120) (o := .cells #[.int .i64 a0_0, .slice A0_1 l0_1.length c0_1] 66 (0, 0)) (by (with_reducible repeat (first | refine zga ?_ _ | refine zha ?_ | refine zfa ?_ _)); exact BK120.out) hb); replace BK121 := zaa.mk (zna (g := gb121) (o := .cells #[.int .i64 a1_0, .int .i64 a1_1, .int .i64 a1_2] 32 (0, 0)) (by (with_reducible repeat (first | refine zga ?_ _ | refine zha ?_ | refine zfa ?_ _)); exact BK121.out) hb); replace HB := zaa.mk (zma (by repeat (first | (with_reducible first | exact HB.out | apply zda | apply zba | apply zca | refine zea ?_ GE120.out | refine zea ?_ GE121.out) | exact HB.out)) hb); (try clear hb); (try clear hb2); (try clear hk); (try clear hi); have hcz14_0 : w13.cell? ⟨gb121, 0, none⟩ = some (.int .i64 a1_0) := (zla BK121.out 0).trans rfl; have hcz14_1 : w13.cell? ⟨gb121, 1, none⟩ = some (.int .i64 a1_1) := (zla BK121.out 1).trans rfl; have hcz14_2 : w13.cell? ⟨gb121, 2, none⟩ = some (.int .i64 a1_2) := (zla BK121.out 2).trans rfl; have hfz14_0 := zka BK121.out 0; have hfz14_1 := zka BK121.out 1; have hfz14_2 := zka BK121.out 2) | ((with_reducible refine zbb (N := 12) rfl ?_); (try (refine zid (by rfl) ?_; dsimp only)); refine Kd.R_lit (Kd.int .i64) _ 3 ?hg (N := 12) ?hd (xs := ([a1_1] : List Int)) (inner := [.int .i64 a1_1]) (ok := fun _ => True) (okp := fun _ => True) ?hr ?hp (fun _ hk => hk) trivial (Below.refl _ _) (Nat.le_refl _) (by simp) ?_; (case hd => rfl); (case hg => rfl); (case hr => first | (go_simp; done) | (go_simp; rfl)); (case hp => exact (Reps.one (show Kd.M (Kd.int .i64) _ _ _ a1_1 [.int .i64 a1_1] from rfl) (Reps.none _ _))); intro v124 w15 ho16 hb hg_ hnew_; clear hg_ hnew_; (first | rw [← Ny123.out] at ho16 | (simp only [Int.reduceToNat] at ho16; rw [← Ny123.out] at ho16)); have HO125 := zaa.mk (Kd.znd ho16 (zja (by repeat (first | (with_reducible first | exact HB.out | apply zda | apply zba | apply zca | refine zea ?_ GE120.out | refine zea ?_ GE121.out) | exact HB.out)))); replace BK120 := zaa.mk (zna (g := gb120) (o := .cells #[.int .i64 a0_0, .slice A0_1 l0_1.length c0_1] 66 (0, 0)) (by (with_reducible repeat (first | refine zga ?_ _ | refine zha ?_ | refine zfa ?_ _)); exact BK120.out) hb); replace BK121 := zaa.mk (zna (g := gb121) (o := .cells #[.int .i64 a1_0, .int .i64 a1_1, .int .i64 a1_2] 32 (0, 0)) (by (with_reducible repeat (first | refine zga ?_ _ | refine zha ?_ | refine zfa ?_ _)); exact BK121.out) hb); replace HB := zaa.mk (zma (by repeat (first | (with_reducible first | exact HB.out | apply zda | apply zba | apply zca | refine zea ?_ GE120.out | refine zea ?_ GE121.out) | exact HB.out)) hb); clear hb ho16; obtain ⟨Ao17, co17, eo17⟩ := Kd.zfd HO125.out; subst eo17) | (go_at_call 34; (with_reducible refine (znc.calls 1 4 _ _ y123 true _ ?side1 ?side2 A5.out).mono ?_); (case side1 => repeat (first | exact (Kd.zgb HO125.out).2.2 | (with_reducible refine Kd.zrb ?_ _) | (with_reducible refine Kd.zqb ?_ _) | (with_reducible refine Kd.zmc ?_))); (case side2 => exact (Kd.zgb HO125.out).2.1); rintro e w18 ⟨rfl, hb⟩; replace HO125 := zaa.mk (Kd.zcb (by (with_reducible repeat (first | apply Kd.zqa | apply Kd.zpa | apply Kd.zsa)); exact HO125.out) hb); replace BK120 := zaa.mk (zna (g := gb120) (o := .cells #[.int .i64 a0_0, .slice A0_1 l0_1.length c0_1] 66 (0, 0)) (by (with_reducible repeat (first | refine zga ?_ _ | refine zha ?_ | refine zfa ?_ _)); exact BK120.out) hb); replace BK121 := zaa.mk (zna (g := gb121) (o := .cells #[.int .i64 a1_0, .int .i64 a1_1, .int .i64 a1_2] 32 (0, 0)) (by (with_reducible repeat (first | refine zga ?_ _ | refine zha ?_ | refine zfa ?_ _)); exact BK121.out) hb); replace HB := zaa.mk (zma (by repeat (first | (with_reducible first | exact HB.out | apply zda | apply zba | apply zca | refine zea ?_ GE120.out | refine zea ?_ GE121.out) | exact HB.out)) hb); (try clear hb); (try clear hb2); (try clear hk); (try clear hi); have hcz19_0 : w18.cell? ⟨gb121, 0, none⟩ = some (.int .i64 a1_0) := (zla BK121.out 0).trans rfl; have hcz19_1 : w18.cell? ⟨gb121, 1, none⟩ = some (.int .i64 a1_1) := (zla BK121.out 1).trans rfl; have hcz19_2 : w18.cell? ⟨gb121, 2, none⟩ = some (.int .i64 a1_2) := (zla BK121.out 2).trans rfl; have hfz19_0 := zka BK121.out 0; have hfz19_1 := zka BK121.out 1; have hfz19_2 := zka BK121.out 2) | ((with_reducible refine zbb (N := 18) rfl ?_); (try (refine zid (by rfl) ?_; dsimp only)); refine Kd.R_lit (Kd.int .i64) _ 3 ?hg (N := 18) ?hd (xs := ([a1_2] : List Int)) (inner := [.int .i64 a1_2]) (ok := fun _ => True) (okp := fun _ => True) ?hr ?hp (fun _ hk => hk) trivial (Below.refl _ _) (Nat.le_refl _) (by simp) ?_; (case hd => rfl); (case hg => rfl); (case hr => first | (go_simp; done) | (go_simp; rfl)); (case hp => exact (Reps.one (show Kd.M (Kd.int .i64) _ _ _ a1_2 [.int .i64 a1_2] from rfl) (Reps.none _ _))); intro v128 w20 ho21 hb hg_ hnew_; clear hg_ hnew_; (first | rw [← Ny127.out] at ho21 | (simp only [Int.reduceToNat] at ho21; rw [← Ny127.out] at ho21)); have HO129 := zaa.mk (Kd.znd (Kd.R_new' ho21 (Kd.R_lt (by (with_reducible repeat (first | apply Kd.zqa | apply Kd.zpa | apply Kd.zsa)); exact HO125.out))) (zja (by repeat (first | (with_reducible first | exact HB.out | apply zda | apply zba | apply zca | refine zea ?_ GE120.out | refine zea ?_ GE121.out) | exact HB.out)))); replace HO125 := zaa.mk (Kd.R_elder' (by (with_reducible repeat (first | apply Kd.zqa | apply Kd.zpa | apply Kd.zsa)); exact HO125.out) (Kd.zxd ho21) hb); replace BK120 := zaa.mk (zna (g := gb120) (o := .cells #[.int .i64 a0_0, .slice A0_1 l0_1.length c0_1] 66 (0, 0)) (by (with_reducible repeat (first | refine zga ?_ _ | refine zha ?_ | refine zfa ?_ _)); exact BK120.out) hb); replace BK121 := zaa.mk (zna (g := gb121) (o := .cells #[.int .i64 a1_0, .int .i64 a1_1, .int .i64 a1_2] 32 (0, 0)) (by (with_reducible repeat (first | refine zga ?_ _ | refine zha ?_ | refine zfa ?_ _)); exact BK121.out) hb); replace HB := zaa.mk (zma (by repeat (first | (with_reducible first | exact HB.out | apply zda | apply zba | apply zca | refine zea ?_ GE120.out | refine zea ?_ GE121.out) | exact HB.out)) hb); clear hb ho21; obtain ⟨Ao22, co22, eo22⟩ := Kd.zfd HO129.out; subst eo22) | (go_at_call 16; (with_reducible refine (zzd.calls _ _ y127 t130 _ ?side1 ?side2 A7.out).mono ?_); (case side1 => repeat (first | exact (Kd.zgb HO129.out).2.2 | (with_reducible refine Kd.zrb ?_ _) | (with_reducible refine Kd.zqb ?_ _) | (with_reducible refine Kd.zmc ?_))); (case side2 => exact (Kd.zgb HO129.out).2.1); rintro e w23 ⟨rfl, hb⟩; replace HO125 := zaa.mk (Kd.zcb (by (with_reducible repeat (first | apply Kd.zqa | apply Kd.zpa | apply Kd.zsa)); exact HO125.out) hb); replace HO129 := zaa.mk (Kd.zcb (by (with_reducible repeat (first | apply Kd.zqa | apply Kd.zpa | apply Kd.zsa)); exact HO129.out) hb); replace BK120 := zaa.mk (zna (g := gb120) (o := .cells #[.int .i64 a0_0, .slice A0_1 l0_1.length c0_1] 66 (0, 0)) (by (with_reducible repeat (first | refine zga ?_ _ | refine zha ?_ | refine zfa ?_ _)); exact BK120.out) hb); replace BK121 := zaa.mk (zna (g := gb121) (o := .cells #[.int .i64 a1_0, .int .i64 a1_1, .int .i64 a1_2] 32 (0, 0)) (by (with_reducible repeat (first | refine zga ?_ _ | refine zha ?_ | refine zfa ?_ _)); exact BK121.out) hb); replace HB := zaa.mk (zma (by repeat (first | (with_reducible first | exact HB.out | apply zda | apply zba | apply zca | refine zea ?_ GE120.out | refine zea ?_ GE121.out) | exact HB.out)) hb); (try clear hb); (try clear hb2); (try clear hk); (try clear hi)))
     go_ret
     exact ⟨by first | rfl | (simp [zwa, zva] <;> rfl) | (simp [*, zwa, zva] <;> rfl), by repeat (first | (with_reducible first | exact HB.out | apply zda | apply zba | apply zca | refine zea ?_ GE120.out | refine zea ?_ GE121.out) | exact HB.out)⟩
   · replace c6 := Bool.eq_false_iff.mpr c6
     subst c6
     have H1 : (none) = some r := by rw [if_neg (show ¬ (false = true) by decide)] at H; exact H
     clear H
     have H := H1
     clear H1
     exact absurd H (by simp)
 · replace c4 := Bool.eq_false_iff.mpr c4
   subst c4
   have H1 : (none) = some r := by rw [if_neg (show ¬ (false = true) by decide)] at H; exact H
   clear H
   have H := H1
   clear H1
   exact absurd H (by simp)
end Go.Proofs.YtoacbkoenkiahaaGreat.PTopGluePlate
end
section
namespace Go.Proofs.YtoacbkoenkiahaaGreat.PTopGluePlate
open Go.RowKit Go.Proofs.YtoacbkoenkiahaaGreatW.PrintWords Go.Proofs.YtoacbkoenkiahaaGreatW.PrintLast Go.Proofs.YtoacbkoenkiahaaGreatW.PrintMore
attribute [local go_sem] znb zlb zhc zgc zeb zdb zmb zkb
set_option linter.unusedVariables false
set_option linter.unusedSimpArgs false
def glue_plan_check_1.f (a0_0 : Int) (a0_1 : Int) (a0_2 : Int) (a1_0 : Int) (l1_1 : List Int) : Option (Bool) := (glue_plan_isCause.f a1_0 l1_1 a0_0 a0_1 a0_2).bind fun t132 => (some (!t132))
set_option maxHeartbeats 8000000 in
set_option maxRecDepth 100000 in
theorem glue_plan_check_1.calls (a0_0 : Int) (a0_1 : Int) (a0_2 : Int) (g1_ : Nat) (a1_0 : Int) (A1_1 : Option Addr) (c1_1 : Nat) (l1_1 : List Int) (r : Bool) (w : World) (hr1_1 : Kd.C (Kd.int .i64) w A1_1 l1_1.length l1_1) (hc1_1 : l1_1.length ≤ c1_1) (hbx1 : w.heap[g1_]? = some (.cells #[.int .i64 a1_0, .slice A1_1 l1_1.length c1_1] 66 (0, 0))) (h : glue_plan_check_1.f a0_0 a0_1 a0_2 a1_0 l1_1 = some r) :
 Calls Tryz.prog 60 #[.agg #[.int .i64 a0_0, .int .i64 a0_1, .int .i64 a0_2], .pointer (some ⟨g1_, 0, none⟩)] w fun e w' => e = .returned (.bool r) ∧ Below w.heap.size w w' := by
 have hu32 := Tryz.underlying32
 have hu66 := Tryz.underlying66
 have HR1_1 := zaa.mk hr1_1
 have HC1_1 := zaa.mk hc1_1
 clear hr1_1 hc1_1
 have BK1 := zaa.mk hbx1
 clear hbx1
 have HB := zaa.mk (Below.refl w.heap.size w)
 have H : ((glue_plan_isCause.f a1_0 l1_1 a0_0 a0_1 a0_2).bind fun t132 => (some (!t132))) = some r := h
 clear h
 replace H := Option.bind_eq_some_iff.mp H
 obtain ⟨t132, A30, H⟩ := H
 replace H : (some (!t132)) = some r := H
 have A3 := zaa.mk A30
 clear A30
 obtain rfl := Option.some.inj H
 go_enter Tryz.func60, Tryz.ntmps60
 go_wp2_with (first | ((with_reducible refine zbb (N := 2) rfl ?_); refine zob ?hg (N := 2) ?hd (cs := #[.int .i64 a0_0, .int .i64 a0_1, .int .i64 a0_2]) (t := 32) ?hr ?_; (case hd => rfl); (case hg => rfl); (case hr => first | (go_simp; done) | (go_simp; rfl)); intro gb131 hg w4 hbox hb; have BK131 := zaa.mk (hbox); have GW131 := zaa.mk ((by rw [hg]; exact (zja (by repeat (first | (with_reducible first | exact HB.out | apply zda | apply zba | apply zca | refine zea ?_ GE1.out) | exact HB.out))) : w.heap.size ≤ gb131)); have GE131 := zaa.mk ((by rw [hg]; exact (zja (by repeat (first | (with_reducible first | exact HB.out | apply zda | apply zba | apply zca | refine zea ?_ GE1.out) | exact HB.out))) : w.heap.size ≤ gb131)); replace HB := zaa.mk (zma (by repeat (first | (with_reducible first | exact HB.out | apply zda | apply zba | apply zca | refine zea ?_ GE1.out) | exact HB.out)) hb); have NB1_131 := zaa.mk ((by rw [hg]; exact Nat.ne_of_lt (zbc (g := g1_) (o := .cells #[.int .i64 a1_0, .slice A1_1 l1_1.length c1_1] 66 (0, 0)) (by (with_reducible repeat (first | refine zga ?_ _ | refine zha ?_ | refine zfa ?_ _)); exact BK1.out)) : g1_ ≠ gb131)); have NB131_1 := zaa.mk ((by rw [hg]; exact Nat.ne_of_gt (zbc (g := g1_) (o := .cells #[.int .i64 a1_0, .slice A1_1 l1_1.length c1_1] 66 (0, 0)) (by (with_reducible repeat (first | refine zga ?_ _ | refine zha ?_ | refine zfa ?_ _)); exact BK1.out)) : gb131 ≠ g1_)); replace BK1 := zaa.mk (zna (g := g1_) (o := .cells #[.int .i64 a1_0, .slice A1_1 l1_1.length c1_1] 66 (0, 0)) (by (with_reducible repeat (first | refine zga ?_ _ | refine zha ?_ | refine zfa ?_ _)); exact BK1.out) hb); clear hb hbox hg; have hnb5 := NB1_131.out; have hnc5 := NB131_1.out; have hcz6_0 : w4.cell? ⟨g1_, 0, none⟩ = some (.int .i64 a1_0) := (zla BK1.out 0).trans rfl; have hcz6_1 : w4.cell? ⟨g1_, 1, none⟩ = some (.slice A1_1 l1_1.length c1_1) := (zla BK1.out 1).trans rfl; have hfz6_0 := zka BK1.out 0; have hfz6_1 := zka BK1.out 1; have hcz7_0 : w4.cell? ⟨gb131, 0, none⟩ = some (.int .i64 a0_0) := (zla BK131.out 0).trans rfl; have hcz7_1 : w4.cell? ⟨gb131, 1, none⟩ = some (.int .i64 a0_1) := (zla BK131.out 1).trans rfl; have hcz7_2 : w4.cell? ⟨gb131, 2, none⟩ = some (.int .i64 a0_2) := (zla BK131.out 2).trans rfl; have hfz7_0 := zka BK131.out 0; have hfz7_1 := zka BK131.out 1; have hfz7_2 := zka BK131.out 2) | ((with_reducible refine zxa (f := 61) rfl ?_); refine zhd (some 6) rfl rfl Tryz.func61 (by kernel_rfl) rfl #[.agg #[.int .i64 a1_0, .slice A1_1 l1_1.length c1_1], .agg #[.int .i64 a0_0, .int .i64 a0_1, .int .i64 a0_2]] rfl (by (try simp only [List.map_toArray, List.map_cons, List.map_nil]); first | done | rfl | (simp only [List.length_drop, List.length_take]; rfl)) ?_; (with_reducible refine (glue_plan_isCause.calls a1_0 _ _ l1_1 a0_0 a0_1 a0_2 t132 _ ?side1 ?side2 A3.out).mono ?_); (case side1 => repeat (first | exact (Kd.zkc HR1_1.out HB.out) | (with_reducible refine Kd.zrb ?_ _) | (with_reducible refine Kd.zqb ?_ _) | (with_reducible refine Kd.zmc ?_))); (case side2 => exact HC1_1.out); rintro e w8 ⟨rfl, hb⟩; refine ⟨_, rfl, ?_⟩; replace BK1 := zaa.mk (zna (g := g1_) (o := .cells #[.int .i64 a1_0, .slice A1_1 l1_1.length c1_1] 66 (0, 0)) (by (with_reducible repeat (first | refine zga ?_ _ | refine zha ?_ | refine zfa ?_ _)); exact BK1.out) hb); replace BK131 := zaa.mk (zna (g := gb131) (o := .cells #[.int .i64 a0_0, .int .i64 a0_1, .int .i64 a0_2] 32 (0, 0)) (by (with_reducible repeat (first | refine zga ?_ _ | refine zha ?_ | refine zfa ?_ _)); exact BK131.out) hb); replace HB := zaa.mk (zma (by repeat (first | (with_reducible first | exact HB.out | apply zda | apply zba | apply zca | refine zea ?_ GE1.out | refine zea ?_ GE131.out) | exact HB.out)) hb); (try clear hb); (try clear hb2); (try clear hk); (try clear hi)))
 go_ret
 exact ⟨by first | rfl | (simp [zwa, zva] <;> rfl) | (simp [*, zwa, zva] <;> rfl), by repeat (first | (with_reducible first | exact HB.out | apply zda | apply zba | apply zca | refine zea ?_ GE1.out | refine zea ?_ GE131.out) | exact HB.out)⟩
end Go.Proofs.YtoacbkoenkiahaaGreat.PTopGluePlate
end
section
namespace Go.Proofs.YtoacbkoenkiahaaGreat.PTopGluePlate
open Go.RowKit Go.Proofs.YtoacbkoenkiahaaGreatW.PrintWords Go.Proofs.YtoacbkoenkiahaaGreatW.PrintLast Go.Proofs.YtoacbkoenkiahaaGreatW.PrintMore
attribute [local go_sem] znb zlb zhc zgc zeb zdb zmb zkb
set_option linter.unusedVariables false
set_option linter.unusedSimpArgs false
def Pred_api_GlueCause_83 (P : Program) (g : Nat) (lb : Array Value) (l : List S32) (p : S32 → Option Bool) (w : World) : Prop :=
 ∀ (W : World) (x : S32), x ∈ l → Below w.heap.size w W → ∀ b, p x = some b → Calls P g (#[.agg #[.int .i64 x.f0, .int .i64 x.f1, .int .i64 x.f2]] ++ lb) W fun e w' => e = .returned (.bool b) ∧ Below W.heap.size W w'
theorem rd_nat_api_GlueCause (l : List S32) (k : Nat) (h : k < l.length) : zta l (k : Int) = l[k] := by
 simp [zta, List.getD_eq_getElem?_getD, List.getElem?_eq_getElem h]
set_option maxHeartbeats 2000000 in
set_option maxRecDepth 100000 in
theorem slices_IndexFunc_api_GlueCause.calls (g : Nat) (lb : Array Value) (p : S32 → Option Bool) (A0 : Option Addr) (c0 : Nat) (l0 : List S32) (r : Int) (w : World) (hr0 : Kd.C k32 w A0 l0.length l0) (hc0 : l0.length ≤ c0)
    (eg : ∀ args w, (callFunc g args).run Tryz.prog w = .ok (.enter g args) w) (hp : Pred_api_GlueCause_83 Tryz.prog g lb l0 p w) (h : idxO p l0 0 = some r) :
    Calls Tryz.prog 83 #[.slice A0 l0.length c0, .func (.func g) #[] lb] w fun e w' => e = .returned (.int .i64 r) ∧ Below w.heap.size w w' := by
  have hu32 := Tryz.underlying32
  have HR0 := zaa.mk hr0
  have HB := zaa.mk (Below.refl w.heap.size w)
  have HP := zaa.mk hp
  have HH := zaa.mk h
  have hlen : l0.length ≤ 9223372036854775807 := hr0.2.1
  clear hr0 hc0 hp h
  go_enter Tryz.func83, Tryz.ntmps83
  go_wp2
  go_loopw [8] (fun v8 wr => ∃ kk : Nat, kk ≤ l0.length ∧ v8 = .int .i64 kk ∧ zaa (idxO p (l0.drop kk) kk = some r) ∧ zaa (Below w.heap.size w wr)) (fun v8 _ => l0.length - (intOf v8).toNat)
  case atStart => exact ⟨0, Nat.zero_le _, rfl, ⟨by simpa using HH.out⟩, HB⟩
  case round =>
    obtain ⟨kk, hkk, rfl, HI, HW⟩ := hrel
    by_cases hlt : kk < l0.length
    · have hlz : (kk : Int) < (l0.length : Int) := by omega
      obtain ⟨ad, e0, hx0, hx1, hx2⟩ := at_T32 (Kd.zkc HR0.out HW.out) (kk : Int) (by omega) hlz
      cases e0
      rw [rd_nat_api_GlueCause l0 kk hlt] at hx0 hx1 hx2
      simp only [Int.toNat_natCast] at hx0 hx1 hx2
      have hcall := HP.out wr l0[kk] (List.getElem_mem hlt) HW.out
      have hd := HI.out
      rw [idxO_drop p l0 kk hlt] at hd
      have HD := zaa.mk hd
      clear hd HI
      generalize l0[kk] = y at hx0 hx1 hx2 hcall HD
      have HC := zaa.mk hcall
      clear hcall
      cases hq : p y with
      | none => exact absurd HD.out (by rw [hq]; simp)
      | some b =>
        have HC2 := zaa.mk (HC.out b hq)
        clear HC
        cases b with
        | true =>
          go_wp2_with (go_at_fn g; refine HC2.out.mono ?_; rintro e w' ⟨rfl, hb'⟩; have HB' := zaa.mk hb'; clear hb')
          go_ret
          refine ⟨?_, zma HW.out HB'.out⟩
          have h1 := HD.out
          rw [hq] at h1
          have h2 : (kk : Int) = r := by simpa using h1
          rw [← h2]; rfl
        | false =>
          have HI : zaa (idxO p (l0.drop (kk + 1)) (kk + 1) = some r) := ⟨by have h1 := HD.out; rw [hq] at h1; simpa using h1⟩
          go_wp2_with (go_at_fn g; refine HC2.out.mono ?_; rintro e w' ⟨rfl, hb'⟩; have HB' := zaa.mk hb'; clear hb')
          go_roundw
          case rel => exact ⟨kk + 1, by omega, by go_num, HI, ⟨zma HW.out HB'.out⟩⟩
          case measure => simp [intOf]; omega
    · obtain rfl : kk = l0.length := by omega
      go_wp2
      go_ret
      have h1 := HI.out
      rw [List.drop_length] at h1
      exact ⟨by have h2 : (-1 : Int) = r := (by simpa [idxO] using h1); rw [← h2]; rfl, HW.out⟩
end Go.Proofs.YtoacbkoenkiahaaGreat.PTopGluePlate
end
section
namespace Go.Proofs.YtoacbkoenkiahaaGreat.PTopGluePlate
open Go.RowKit Go.Proofs.YtoacbkoenkiahaaGreatW.PrintWords Go.Proofs.YtoacbkoenkiahaaGreatW.PrintLast Go.Proofs.YtoacbkoenkiahaaGreatW.PrintMore
attribute [local go_sem] znb zlb zhc zgc zeb zdb zmb zkb
set_option linter.unusedVariables false
set_option linter.unusedSimpArgs false
def Pred_api_GlueCause_62 (P : Program) (g : Nat) (lb : Array Value) (l : List S32) (p : S32 → Option Bool) (w : World) : Prop :=
 ∀ (W : World) (x : S32), x ∈ l → Below w.heap.size w W → ∀ b, p x = some b → Calls P g (#[.agg #[.int .i64 x.f0, .int .i64 x.f1, .int .i64 x.f2]] ++ lb) W fun e w' => e = .returned (.bool b) ∧ Below W.heap.size W w'
set_option maxHeartbeats 1000000 in
theorem slices_ContainsFunc_api_GlueCause.calls (g : Nat) (lb : Array Value) (p : S32 → Option Bool) (A0 : Option Addr) (c0 : Nat) (l0 : List S32) (r : Bool) (w : World) (hr0 : Kd.C k32 w A0 l0.length l0) (hc0 : l0.length ≤ c0)
 (eg : ∀ args w, (callFunc g args).run Tryz.prog w = .ok (.enter g args) w) (hp : Pred_api_GlueCause_62 Tryz.prog g lb l0 p w) (h : containsO p l0 = some r) :
 Calls Tryz.prog 62 #[.slice A0 l0.length c0, .func (.func g) #[] lb] w fun e w' => e = .returned (.bool r) ∧ Below w.heap.size w w' := by
 obtain ⟨x, hx, hxr⟩ := containsO_idx p l0 r h
 have H := zaa.mk (slices_IndexFunc_api_GlueCause.calls g lb p A0 c0 l0 x w hr0 hc0 eg hp hx)
 have HX := zaa.mk hxr
 clear hr0 hc0 hp h hx hxr
 go_enter Tryz.func62, Tryz.ntmps62
 go_wp2_with (go_at_call 83; refine H.out.mono ?_; rintro e w' ⟨rfl, hb'⟩; have HB' := zaa.mk hb'; clear hb')
 go_ret
 exact ⟨by rw [← HX.out]; rfl, HB'.out⟩
end Go.Proofs.YtoacbkoenkiahaaGreat.PTopGluePlate
end
section
namespace Go.Proofs.YtoacbkoenkiahaaGreat.PTopGluePlate
open Go.RowKit Go.Proofs.YtoacbkoenkiahaaGreatW.PrintWords Go.Proofs.YtoacbkoenkiahaaGreatW.PrintLast Go.Proofs.YtoacbkoenkiahaaGreatW.PrintMore
attribute [local go_sem] znb zlb zhc zgc zeb zdb zmb zkb
set_option linter.unusedVariables false
set_option linter.unusedSimpArgs false
def zvc.f (l0 : List (S32)) (a1_0 : Int) (l1_1 : List Int) : Option Bool := containsO (fun (x : S32) => glue_plan_check_1.f x.f0 x.f1 x.f2 a1_0 l1_1) l0
set_option maxHeartbeats 1000000 in
theorem zvc.calls (A0 : Option Addr) (c0 : Nat) (l0 : List (S32)) (g1_ : Nat) (a1_0 : Int) (A1_1 : Option Addr) (c1_1 : Nat) (l1_1 : List Int) (r : Bool) (w : World) (hr0 : Kd.C k32 w A0 l0.length l0) (hc0 : l0.length ≤ c0) (hr1_1 : Kd.C (Kd.int .i64) w A1_1 l1_1.length l1_1) (hc1_1 : l1_1.length ≤ c1_1) (hbx1 : w.heap[g1_]? = some (.cells #[.int .i64 a1_0, .slice A1_1 l1_1.length c1_1] 66 (0, 0))) (h : zvc.f l0 a1_0 l1_1 = some r) :
 Calls Tryz.prog 62 #[.slice A0 l0.length c0, .func (.func 60) #[] #[.pointer (some ⟨g1_, 0, none⟩)]] w fun e w' => e = .returned (.bool r) ∧ Below w.heap.size w w' := by
 have eg : ∀ args w, (callFunc 60 args).run Tryz.prog w = .ok (.enter 60 args) w := enters_of Tryz.func60 (by kernel_rfl) rfl
 refine slices_ContainsFunc_api_GlueCause.calls 60 #[.pointer (some ⟨g1_, 0, none⟩)] (fun (x : S32) => glue_plan_check_1.f x.f0 x.f1 x.f2 a1_0 l1_1) A0 c0 l0 r w hr0 hc0 eg ?_ h
 intro W x hx hW b hb
 refine (glue_plan_check_1.calls x.f0 x.f1 x.f2 g1_ a1_0 _ _ l1_1 b W (Kd.zkc hr1_1 hW) hc1_1 ((hW.block _ (zbc hbx1)).trans hbx1) hb).mono ?_
 rintro e w' ⟨rfl, hd⟩; exact ⟨rfl, hd⟩
def zyc.l0 : Nat → List (S32) → Int → Option (Int)
 | 0, _, _ => none
 | k + 1, x1, x6 => if x6 < (x1.length : Int) then (if 0 ≤ x6 then (if 0 ≤ (wrap64 (x6 - 1)) then (if (wrap64 (x6 - 1)) < (x1.length : Int) then (if ((zta x1 x6).f0) ≤ ((zta x1 (wrap64 (x6 - 1))).f0) then (none) else (zyc.l0 k x1 (wrap64 (x6 + 1)))) else (none)) else (none)) else (none)) else (some 0)
def zyc.f (k : Nat) (a0_0 : Int) (l0_1 : List Int) (l1 : List (S32)) : Option (Int) := if (l1.length : Int) > 2 then (none) else ((zvc.f l1 a0_0 l0_1).bind fun t134 => (if t134 = true then (none) else (zyc.l0 k l1 1)))
set_option maxHeartbeats 8000000 in
set_option maxRecDepth 100000 in
theorem zyc.calls (k : Nat) (a0_0 : Int) (A0_1 : Option Addr) (c0_1 : Nat) (l0_1 : List Int) (A1 : Option Addr) (c1 : Nat) (l1 : List (S32)) (r : Int) (w : World) (hr0_1 : Kd.C (Kd.int .i64) w A0_1 l0_1.length l0_1) (hc0_1 : l0_1.length ≤ c0_1) (hr1 : Kd.C k32 w A1 l1.length l1) (hc1 : l1.length ≤ c1) (h : zyc.f k a0_0 l0_1 l1 = some r) :
 Calls Tryz.prog 33 #[.agg #[.int .i64 a0_0, .slice A0_1 l0_1.length c0_1], .slice A1 l1.length c1] w fun e w' => e = .returned (.int .i64 r) ∧ Below w.heap.size w w' := by
 have hu66 := Tryz.underlying66
 have HR0_1 := zaa.mk hr0_1
 have HC0_1 := zaa.mk hc0_1
 clear hr0_1 hc0_1
 have HR1 := zaa.mk hr1
 have HC1 := zaa.mk hc1
 clear hr1 hc1
 have HB := zaa.mk (Below.refl w.heap.size w)
 have H : (if (l1.length : Int) > 2 then (none) else ((zvc.f l1 a0_0 l0_1).bind fun t134 => (if t134 = true then (none) else (zyc.l0 k l1 1)))) = some r := h
 clear h
 by_cases c3 : (l1.length : Int) > 2
 · rw [if_pos c3] at H
   exact absurd H (by simp)
 · rw [if_neg c3] at H
   have c3b0 : decide (2 < (l1.length : Int)) = false := decide_eq_false c3
   have c3b1 : decide (2 < l1.length) = false := decide_eq_false (by omega)
   clear c3
   replace H := Option.bind_eq_some_iff.mp H
   obtain ⟨t134, A40, H⟩ := H
   replace H : (if t134 = true then (none) else (zyc.l0 k l1 1)) = some r := H
   have A4 := zaa.mk A40
   clear A40
   by_cases c5 : t134 = true
   · subst c5
     have H1 : (none) = some r := by rw [if_pos rfl] at H; exact H
     clear H
     have H := H1
     clear H1
     exact absurd H (by simp)
   · replace c5 := Bool.eq_false_iff.mpr c5
     subst c5
     have H1 : (zyc.l0 k l1 1) = some r := by rw [if_neg (show ¬ (false = true) by decide)] at H; exact H
     clear H
     have H := H1
     clear H1
     have H' := zaa.mk H
     clear H
     go_enter Tryz.func33, Tryz.ntmps33
     go_wp2_with (first | ((with_reducible refine zbb (N := 2) rfl ?_); refine zob ?hg (N := 2) ?hd (cs := #[.int .i64 a0_0, .slice A0_1 l0_1.length c0_1]) (t := 66) ?hr ?_; (case hd => rfl); (case hg => rfl); (case hr => first | (go_simp; done) | (go_simp; rfl)); intro gb133 hg w6 hbox hb; have BK133 := zaa.mk (hbox); have GW133 := zaa.mk ((by rw [hg]; exact (zja (by repeat (first | (with_reducible first | exact HB.out | apply zda | apply zba | apply zca) | exact HB.out))) : w.heap.size ≤ gb133)); have GE133 := zaa.mk ((by rw [hg]; exact (zja (by repeat (first | (with_reducible first | exact HB.out | apply zda | apply zba | apply zca) | exact HB.out))) : w.heap.size ≤ gb133)); replace HB := zaa.mk (zma (by repeat (first | (with_reducible first | exact HB.out | apply zda | apply zba | apply zca) | exact HB.out)) hb); clear hb hbox hg) | (go_at_call 62; (with_reducible refine (zvc.calls _ _ l1 gb133 a0_0 A0_1 c0_1 l0_1 false _ ?side1 ?side2 ?side3 ?side4 ?side5 A4.out).mono ?_); (case side1 => repeat (first | exact (Kd.zkc HR1.out HB.out) | (with_reducible refine Kd.zrb ?_ _) | (with_reducible refine Kd.zqb ?_ _) | (with_reducible refine Kd.zmc ?_))); (case side2 => exact HC1.out); (case side3 => repeat (first | exact (Kd.zkc HR0_1.out HB.out) | (with_reducible refine Kd.zrb ?_ _) | (with_reducible refine Kd.zqb ?_ _) | (with_reducible refine Kd.zmc ?_))); (case side4 => exact HC0_1.out); (case side5 => (with_reducible repeat (first | refine zga ?_ _ | refine zha ?_ | refine zfa ?_ _)); exact BK133.out); rintro e w7 ⟨rfl, hb⟩; replace BK133 := zaa.mk (zna (g := gb133) (o := .cells #[.int .i64 a0_0, .slice A0_1 l0_1.length c0_1] 66 (0, 0)) (by (with_reducible repeat (first | refine zga ?_ _ | refine zha ?_ | refine zfa ?_ _)); exact BK133.out) hb); replace HB := zaa.mk (zma (by repeat (first | (with_reducible first | exact HB.out | apply zda | apply zba | apply zca | refine zea ?_ GE133.out) | exact HB.out)) hb); (try clear hb); (try clear hb2); (try clear hk); (try clear hi)))
     repeat (go_quiet (first | ((with_reducible refine zbb (N := 2) rfl ?_); refine zob ?hg (N := 2) ?hd (cs := #[.int .i64 a0_0, .slice A0_1 l0_1.length c0_1]) (t := 66) ?hr ?_; (case hd => rfl); (case hg => rfl); (case hr => first | (go_simp; done) | (go_simp; rfl)); intro gb133 hg w6 hbox hb; have BK133 := zaa.mk (hbox); have GW133 := zaa.mk ((by rw [hg]; exact (zja (by repeat (first | (with_reducible first | exact HB.out | apply zda | apply zba | apply zca) | exact HB.out))) : w.heap.size ≤ gb133)); have GE133 := zaa.mk ((by rw [hg]; exact (zja (by repeat (first | (with_reducible first | exact HB.out | apply zda | apply zba | apply zca) | exact HB.out))) : w.heap.size ≤ gb133)); replace HB := zaa.mk (zma (by repeat (first | (with_reducible first | exact HB.out | apply zda | apply zba | apply zca) | exact HB.out)) hb); clear hb hbox hg) | (go_at_call 62; (with_reducible refine (zvc.calls _ _ l1 gb133 a0_0 A0_1 c0_1 l0_1 false _ ?side1 ?side2 ?side3 ?side4 ?side5 A4.out).mono ?_); (case side1 => repeat (first | exact (Kd.zkc HR1.out HB.out) | (with_reducible refine Kd.zrb ?_ _) | (with_reducible refine Kd.zqb ?_ _) | (with_reducible refine Kd.zmc ?_))); (case side2 => exact HC1.out); (case side3 => repeat (first | exact (Kd.zkc HR0_1.out HB.out) | (with_reducible refine Kd.zrb ?_ _) | (with_reducible refine Kd.zqb ?_ _) | (with_reducible refine Kd.zmc ?_))); (case side4 => exact HC0_1.out); (case side5 => (with_reducible repeat (first | refine zga ?_ _ | refine zha ?_ | refine zfa ?_ _)); exact BK133.out); rintro e w7 ⟨rfl, hb⟩; replace BK133 := zaa.mk (zna (g := gb133) (o := .cells #[.int .i64 a0_0, .slice A0_1 l0_1.length c0_1] 66 (0, 0)) (by (with_reducible repeat (first | refine zga ?_ _ | refine zha ?_ | refine zfa ?_ _)); exact BK133.out) hb); replace HB := zaa.mk (zma (by repeat (first | (with_reducible first | exact HB.out | apply zda | apply zba | apply zca | refine zea ?_ GE133.out) | exact HB.out)) hb); (try clear hb); (try clear hb2); (try clear hk); (try clear hi))); try go_wp2_with (first | ((with_reducible refine zbb (N := 2) rfl ?_); refine zob ?hg (N := 2) ?hd (cs := #[.int .i64 a0_0, .slice A0_1 l0_1.length c0_1]) (t := 66) ?hr ?_; (case hd => rfl); (case hg => rfl); (case hr => first | (go_simp; done) | (go_simp; rfl)); intro gb133 hg w6 hbox hb; have BK133 := zaa.mk (hbox); have GW133 := zaa.mk ((by rw [hg]; exact (zja (by repeat (first | (with_reducible first | exact HB.out | apply zda | apply zba | apply zca) | exact HB.out))) : w.heap.size ≤ gb133)); have GE133 := zaa.mk ((by rw [hg]; exact (zja (by repeat (first | (with_reducible first | exact HB.out | apply zda | apply zba | apply zca) | exact HB.out))) : w.heap.size ≤ gb133)); replace HB := zaa.mk (zma (by repeat (first | (with_reducible first | exact HB.out | apply zda | apply zba | apply zca) | exact HB.out)) hb); clear hb hbox hg) | (go_at_call 62; (with_reducible refine (zvc.calls _ _ l1 gb133 a0_0 A0_1 c0_1 l0_1 false _ ?side1 ?side2 ?side3 ?side4 ?side5 A4.out).mono ?_); (case side1 => repeat (first | exact (Kd.zkc HR1.out HB.out) | (with_reducible refine Kd.zrb ?_ _) | (with_reducible refine Kd.zqb ?_ _) | (with_reducible refine Kd.zmc ?_))); (case side2 => exact HC1.out); (case side3 => repeat (first | exact (Kd.zkc HR0_1.out HB.out) | (with_reducible refine Kd.zrb ?_ _) | (with_reducible refine Kd.zqb ?_ _) | (with_reducible refine Kd.zmc ?_))); (case side4 => exact HC0_1.out); (case side5 => (with_reducible repeat (first | refine zga ?_ _ | refine zha ?_ | refine zfa ?_ _)); exact BK133.out); rintro e w7 ⟨rfl, hb⟩; replace BK133 := zaa.mk (zna (g := gb133) (o := .cells #[.int .i64 a0_0, .slice A0_1 l0_1.length c0_1] 66 (0, 0)) (by (with_reducible repeat (first | refine zga ?_ _ | refine zha ?_ | refine zfa ?_ _)); exact BK133.out) hb); replace HB := zaa.mk (zma (by repeat (first | (with_reducible first | exact HB.out | apply zda | apply zba | apply zca | refine zea ?_ GE133.out) | exact HB.out)) hb); (try clear hb); (try clear hb2); (try clear hk); (try clear hi))))
     go_loopg [6] k (fun kq v6 w' => ∃ (x6_1 : Int), v6 = .int .i64 x6_1 ∧ zaa (zyc.l0 kq l1 x6_1 = some r) ∧ zaa (kq ≤ k) ∧ zaa (w'.heap[gb133]? = some (.cells #[.int .i64 a0_0, (.slice A0_1 l0_1.length c0_1)] 66 (0, 0))) ∧ zaa (Below w.heap.size w w'))
     case atStart => exact ⟨(1), (by first | rfl | (simp; done) | (simp [*]; done)), H', ⟨Nat.le_refl _⟩, ⟨by (with_reducible repeat (first | refine zga ?_ _ | refine zha ?_ | refine zfa ?_ _)); exact BK133.out⟩, ⟨by repeat (first | (with_reducible first | exact HB.out | apply zda | apply zba | apply zca | refine zea ?_ GE133.out) | exact HB.out)⟩⟩
     case round =>
      clear H'
      try clear c1
      try clear p2
      try clear c3
      try clear c3b0
      try clear c3b1
      try clear c5
      obtain ⟨x6_1, rfl, HA, HK1, BK133, HB⟩ := hrel
      cases gk with
      | zero => exact absurd HA.out (by simp [zyc.l0])
      | succ k1 =>
       have H := HA.out
       clear HA
       simp only [zyc.l0] at H
       by_cases c8 : x6_1 < (l1.length : Int)
       · rw [if_pos c8] at H
         have c8b0 : decide (x6_1 < (l1.length : Int)) = true := decide_eq_true c8
         clear c8
         by_cases c9 : 0 ≤ x6_1
         · rw [if_pos c9] at H
           have c9b0 : decide (0 ≤ x6_1) = true := decide_eq_true c9
           clear c9
           obtain ⟨ji10, hji10⟩ : ∃ j_ : Int, (wrap64 (x6_1 - 1)) = j_ := ⟨_, rfl⟩
           replace H : (if 0 ≤ (ji10) then (if (ji10) < (l1.length : Int) then (if ((zta l1 x6_1).f0) ≤ ((zta l1 (ji10)).f0) then (none) else (zyc.l0 k1 l1 (wrap64 (x6_1 + 1)))) else (none)) else (none)) = some r := by first | (rw [hji10] at H; exact H) | (simp only [hji10] at H ⊢; exact H)
           have hji10w : (IntKind.i64.wrap (x6_1 - 1)) = ji10 := (zpb _).trans hji10
           by_cases c11 : 0 ≤ (ji10)
           · rw [if_pos c11] at H
             have c11b0 : decide (0 ≤ (ji10)) = true := decide_eq_true c11
             clear c11
             by_cases c12 : (ji10) < (l1.length : Int)
             · rw [if_pos c12] at H
               have c12b0 : decide ((ji10) < (l1.length : Int)) = true := decide_eq_true c12
               clear c12
               by_cases c13 : ((zta l1 x6_1).f0) ≤ ((zta l1 (ji10)).f0)
               · rw [if_pos c13] at H
                 exact absurd H (by simp)
               · rw [if_neg c13] at H
                 have c13b0 : decide (((zta l1 x6_1).f0) ≤ ((zta l1 (ji10)).f0)) = false := decide_eq_false c13
                 clear c13
                 have H' := zaa.mk H
                 clear H
                 have p135 : 0 ≤ (x6_1 : Int) := of_decide_eq_true (by first | (with_reducible assumption) | assumption)
                 have q135 : x6_1 < (l1.length : Int) := of_decide_eq_true (by first | (with_reducible assumption) | assumption)
                 obtain ⟨ad135, e135, hx135_0, hx135_1, hx135_2⟩ := at_T32 HR1.out x6_1 p135 q135
                 cases e135
                 replace hx135_0 := (HB.out.cell (World.block_lt_of_cell? w _ hx135_0)).trans hx135_0
                 replace hx135_1 := (HB.out.cell (World.block_lt_of_cell? w _ hx135_1)).trans hx135_1
                 replace hx135_2 := (HB.out.cell (World.block_lt_of_cell? w _ hx135_2)).trans hx135_2
                 replace p135 := eq_true p135
                 replace q135 := eq_true q135
                 have p136 : 0 ≤ ((ji10) : Int) := of_decide_eq_true (by first | (with_reducible assumption) | assumption)
                 have q136 : (ji10) < (l1.length : Int) := of_decide_eq_true (by first | (with_reducible assumption) | assumption)
                 obtain ⟨ad136, e136, hx136_0, hx136_1, hx136_2⟩ := at_T32 HR1.out (ji10) p136 q136
                 obtain rfl : ad135 = ad136 := (by injection e136)
                 replace hx136_0 := (HB.out.cell (World.block_lt_of_cell? w _ hx136_0)).trans hx136_0
                 replace hx136_1 := (HB.out.cell (World.block_lt_of_cell? w _ hx136_1)).trans hx136_1
                 replace hx136_2 := (HB.out.cell (World.block_lt_of_cell? w _ hx136_2)).trans hx136_2
                 replace p136 := eq_true p136
                 replace q136 := eq_true q136
                 go_wp2
                 repeat (go_quiet (fail); try go_wp2)
                 go_roundg k1
                 case measure => have := HK1.out; omega
                 case rel => exact ⟨(wrap64 (x6_1 + 1)), (by first | rfl | (simp; done) | (simp [*]; done)), H', ⟨by have := HK1.out; omega⟩, ⟨by (with_reducible repeat (first | refine zga ?_ _ | refine zha ?_ | refine zfa ?_ _)); exact BK133.out⟩, ⟨by repeat (first | (with_reducible first | exact HB.out | apply zda | apply zba | apply zca | refine zea ?_ GE133.out) | exact HB.out)⟩⟩
             · rw [if_neg c12] at H
               exact absurd H (by simp)
           · rw [if_neg c11] at H
             exact absurd H (by simp)
         · rw [if_neg c9] at H
           exact absurd H (by simp)
       · rw [if_neg c8] at H
         have c8b0 : decide (x6_1 < (l1.length : Int)) = false := decide_eq_false c8
         clear c8
         obtain rfl := Option.some.inj H
         go_wp2
         repeat (go_quiet (fail); try go_wp2)
         go_ret
         exact ⟨by first | rfl | (simp [zwa, zva] <;> rfl) | (simp [*, zwa, zva] <;> rfl), by repeat (first | (with_reducible first | exact HB.out | apply zda | apply zba | apply zca | refine zea ?_ GE133.out) | exact HB.out)⟩
end Go.Proofs.YtoacbkoenkiahaaGreat.PTopGluePlate
end
section
namespace Go.Proofs.YtoacbkoenkiahaaGreat.PTopGluePlate
open Go.RowKit Go.Proofs.YtoacbkoenkiahaaGreatW.PrintWords Go.Proofs.YtoacbkoenkiahaaGreatW.PrintLast Go.Proofs.YtoacbkoenkiahaaGreatW.PrintMore
attribute [local go_sem] znb zlb zhc zgc zeb zdb zmb zkb
set_option linter.unusedVariables false
set_option linter.unusedSimpArgs false
def zqd.l0 : Nat → List (List (S32)) → Int → Int → Int → List Int → Option (Int × List Int × Int)
 | 0, _, _, _, _, _ => none
 | k + 1, x20, x21, x22, x145000, x145001 => if x22 < x21 then (if 0 ≤ x22 then (if x22 < (x20.length : Int) then ((zyc.f k x145000 x145001 (rd_L2 x20 x22)).bind fun t146 => (if t146 = 0 then (zqd.l0 k x20 x21 (wrap64 (x22 + 1)) x145000 x145001) else (none))) else (none)) else (none)) else (some (x145000, x145001, 0))
def zqd.f (k : Nat) (a0_0 : Int) (l0_1 : List Int) (l1 : List (List (S32))) : Option (Int × List Int × Int) := (glue_open.f a0_0 l0_1).bind fun bt139 => (if bt139.2.2 = 0 then (zqd.l0 k l1 (l1.length : Int) 0 bt139.1 bt139.2.1) else (none))
set_option maxHeartbeats 8000000 in
set_option maxRecDepth 100000 in
theorem zqd.calls (k : Nat) (a0_0 : Int) (P0_1_ : Nat → Prop) (A0_1 : Option Addr) (c0_1 : Nat) (l0_1 : List Int) (A1 : Option Addr) (c1 : Nat) (l1 : List (List (S32))) (r1 : Int) (r2 : List Int) (r3 : Int) (w : World) (hs0_1 : Kd.V (Kd.int .i64) 3 w w.heap.size (fun k_ => P0_1_ k_) (.slice A0_1 l0_1.length c0_1) l0_1) (hr1 : Kd.C (Kd.slice 32 k32) w A1 l1.length l1) (hc1 : l1.length ≤ c1) (h : zqd.f k a0_0 l0_1 l1 = some (r1, r2, r3)) :
 Calls Tryz.prog 15 #[.agg #[.int .i64 a0_0, .slice A0_1 l0_1.length c0_1], .slice A1 l1.length c1] w fun e w' => ∃ v1_ : Value, e = .returned (.tuple #[.agg #[.int .i64 r1, v1_], .int .i64 r3]) ∧ Kd.V (Kd.int .i64) 3 w' w.heap.size (fun k_ => (P0_1_ k_ ∨ w.heap.size ≤ k_)) v1_ r2 ∧ Below w.heap.size w w' := by
 have hu29 := Tryz.underlying29
 have hu66 := Tryz.underlying66
 have HO0_1 := zaa.mk (show Kd.V (Kd.int .i64) 3 w w.heap.size (fun k_ => (P0_1_ k_ ∨ w.heap.size ≤ k_)) (.slice A0_1 l0_1.length c0_1) l0_1 from Kd.zcc hs0_1 (fun k_ hk => .inl hk))
 have HR1 := zaa.mk hr1
 have HC1 := zaa.mk hc1
 clear hr1 hc1
 have HB := zaa.mk (Below.refl w.heap.size w)
 have H : ((glue_open.f a0_0 l0_1).bind fun bt139 => (if bt139.2.2 = 0 then (zqd.l0 k l1 (l1.length : Int) 0 bt139.1 bt139.2.1) else (none))) = some (r1, r2, r3) := h
 clear h
 replace H := Option.bind_eq_some_iff.mp H
 obtain ⟨⟨t139, t140, t143⟩, A30, H⟩ := H
 replace H : (if t143 = 0 then (zqd.l0 k l1 (l1.length : Int) 0 t139 t140) else (none)) = some (r1, r2, r3) := H
 have A3 := zaa.mk A30
 clear A30
 by_cases c4 : t143 = 0
 · rw [if_pos c4] at H
   have c4b0 : (t143 == 0) = true := beq_iff_eq.mpr c4
   have c4b1 : (t143 != 0) = false := bne_eq_false_iff_eq.mpr c4
   clear c4
   have H' := zaa.mk H
   clear H
   go_enter Tryz.func15, Tryz.ntmps15
   go_wp2_with (first | ((with_reducible refine zbb (N := 2) rfl ?_); refine zob ?hg (N := 2) ?hd (cs := #[.int .i64 a0_0, .slice A0_1 l0_1.length c0_1]) (t := 29) ?hr ?_; (case hd => rfl); (case hg => rfl); (case hr => first | (go_simp; done) | (go_simp; rfl)); intro gb137 hg w5 hbox hb; replace HO0_1 := zaa.mk (Kd.zqc (Kd.zld (by (with_reducible repeat (first | apply Kd.zza | apply Kd.zya | apply Kd.zib)); exact HO0_1.out) gb137 (Nat.le_of_eq hg.symm)) hb); have BK137 := zaa.mk (hbox); have GW137 := zaa.mk ((by rw [hg]; exact (zja (by repeat (first | (with_reducible first | exact HB.out | apply zda | apply zba | apply zca) | exact HB.out))) : w.heap.size ≤ gb137)); have GE137 := zaa.mk ((by rw [hg]; exact (zja (by repeat (first | (with_reducible first | exact HB.out | apply zda | apply zba | apply zca) | exact HB.out))) : w.heap.size ≤ gb137)); replace HB := zaa.mk (zma (by repeat (first | (with_reducible first | exact HB.out | apply zda | apply zba | apply zca) | exact HB.out)) hb); clear hb hbox hg) | ((with_reducible refine zbb (N := 4) rfl ?_); refine zob ?hg (N := 4) ?hd (cs := #[.int .i64 0, .slice none 0 0]) (t := 66) ?hr ?_; (case hd => rfl); (case hg => rfl); (case hr => first | (go_simp; done) | (go_simp; rfl)); intro gb138 hg w6 hbox hb; replace HO0_1 := zaa.mk (Kd.zqc (Kd.zld (by (with_reducible repeat (first | apply Kd.zza | apply Kd.zya | apply Kd.zib)); exact HO0_1.out) gb138 (Nat.le_of_eq hg.symm)) hb); have BK138 := zaa.mk (hbox); have GW138 := zaa.mk ((by rw [hg]; exact (zja (by repeat (first | (with_reducible first | exact HB.out | apply zda | apply zba | apply zca | refine zea ?_ GE137.out) | exact HB.out))) : w.heap.size ≤ gb138)); have GE138 := zaa.mk ((by rw [hg]; exact (zja (by repeat (first | (with_reducible first | exact HB.out | apply zda | apply zba | apply zca | refine zea ?_ GE137.out) | exact HB.out))) : w.heap.size ≤ gb138)); replace HB := zaa.mk (zma (by repeat (first | (with_reducible first | exact HB.out | apply zda | apply zba | apply zca | refine zea ?_ GE137.out) | exact HB.out)) hb); have NB137_138 := zaa.mk ((by rw [hg]; exact Nat.ne_of_lt (zbc (g := gb137) (o := .cells #[.int .i64 a0_0, .slice A0_1 l0_1.length c0_1] 29 (0, 0)) (by (with_reducible repeat (first | refine zga ?_ _ | refine zha ?_ | refine zfa ?_ _)); exact BK137.out)) : gb137 ≠ gb138)); have NB138_137 := zaa.mk ((by rw [hg]; exact Nat.ne_of_gt (zbc (g := gb137) (o := .cells #[.int .i64 a0_0, .slice A0_1 l0_1.length c0_1] 29 (0, 0)) (by (with_reducible repeat (first | refine zga ?_ _ | refine zha ?_ | refine zfa ?_ _)); exact BK137.out)) : gb138 ≠ gb137)); replace BK137 := zaa.mk (zna (g := gb137) (o := .cells #[.int .i64 a0_0, .slice A0_1 l0_1.length c0_1] 29 (0, 0)) (by (with_reducible repeat (first | refine zga ?_ _ | refine zha ?_ | refine zfa ?_ _)); exact BK137.out) hb); clear hb hbox hg; have hnb7 := NB137_138.out; have hnc7 := NB138_137.out; have hcz8_0 : w6.cell? ⟨gb137, 0, none⟩ = some (.int .i64 a0_0) := (zla BK137.out 0).trans rfl; have hcz8_1 : w6.cell? ⟨gb137, 1, none⟩ = some (.slice A0_1 l0_1.length c0_1) := (zla BK137.out 1).trans rfl; have hfz8_0 := zka BK137.out 0; have hfz8_1 := zka BK137.out 1) | ((with_reducible refine zxa (f := 32) rfl ?_); refine zhd (some 13) rfl rfl Tryz.func32 (by kernel_rfl) rfl #[.agg #[.int .i64 a0_0, .slice A0_1 l0_1.length c0_1]] rfl (by (try simp only [List.map_toArray, List.map_cons, List.map_nil]); first | done | rfl | (simp only [List.length_drop, List.length_take]; rfl)) ?_; (with_reducible refine (glue_open.calls a0_0 (fun k_ => (((P0_1_ k_ ∨ w.heap.size ≤ k_) ∧ k_ ≠ gb137) ∧ k_ ≠ gb138)) _ _ l0_1 t139 t140 t143 _ ?side1 A3.out).mono ?_); (case side1 => exact HO0_1.out); rintro e w9 ⟨v141, rfl, ho0, hb⟩; refine ⟨_, rfl, ?_⟩; replace HO0_1 := zaa.mk (Kd.zqc (by (with_reducible repeat (first | apply Kd.zza | apply Kd.zya | apply Kd.zib)); exact HO0_1.out) hb); have HO142 := zaa.mk (Kd.V_lower (Kd.zcc (ok' := fun k_ => (P0_1_ k_ ∨ w.heap.size ≤ k_) ∧ k_ ≠ gb137 ∧ k_ ≠ gb138) ho0 (fun k_ hk_ => ⟨Or.elim hk_ (fun hs_ => hs_.1.1) (fun hn_ => (.inr (Nat.le_trans (zja (by repeat (first | (with_reducible first | exact HB.out | apply zda | apply zba | apply zca | refine zea ?_ GE137.out | refine zea ?_ GE138.out) | exact HB.out))) hn_))), Or.elim hk_ (fun hs_ => hs_.1.2) (fun hn_ => (Kd.freshB (g := gb137) (o := .cells #[.int .i64 a0_0, .slice A0_1 l0_1.length c0_1] 29 (0, 0)) (by (with_reducible repeat (first | refine zga ?_ _ | refine zha ?_ | refine zfa ?_ _)); exact BK137.out) k_ hn_)), Or.elim hk_ (fun hs_ => hs_.2) (fun hn_ => (Kd.freshB (g := gb138) (o := .cells #[.int .i64 0, .slice none 0 0] 66 (0, 0)) (by (with_reducible repeat (first | refine zga ?_ _ | refine zha ?_ | refine zfa ?_ _)); exact BK138.out) k_ hn_))⟩)) (zja (by repeat (first | (with_reducible first | exact HB.out | apply zda | apply zba | apply zca | refine zea ?_ GE137.out | refine zea ?_ GE138.out) | exact HB.out)))); replace BK137 := zaa.mk (zna (g := gb137) (o := .cells #[.int .i64 a0_0, .slice A0_1 l0_1.length c0_1] 29 (0, 0)) (by (with_reducible repeat (first | refine zga ?_ _ | refine zha ?_ | refine zfa ?_ _)); exact BK137.out) hb); replace BK138 := zaa.mk (zna (g := gb138) (o := .cells #[.int .i64 0, .slice none 0 0] 66 (0, 0)) (by (with_reducible repeat (first | refine zga ?_ _ | refine zha ?_ | refine zfa ?_ _)); exact BK138.out) hb); replace HB := zaa.mk (zma (by repeat (first | (with_reducible first | exact HB.out | apply zda | apply zba | apply zca | refine zea ?_ GE137.out | refine zea ?_ GE138.out) | exact HB.out)) hb); (try clear hb); (try clear hb2); (try clear hk); (try clear hi); (try clear ho0)) | ((with_reducible refine zbb (N := 6) rfl ?_); refine zob ?hg (N := 6) ?hd (cs := #[.int .i64 0, .slice none 0 0]) (t := 66) ?hr ?_; (case hd => rfl); (case hg => rfl); (case hr => first | (go_simp; done) | (go_simp; rfl)); intro gb144 hg w10 hbox hb; replace HO0_1 := zaa.mk (Kd.zqc (Kd.zld (by (with_reducible repeat (first | apply Kd.zza | apply Kd.zya | apply Kd.zib)); exact HO0_1.out) gb144 (Nat.le_of_eq hg.symm)) hb); replace HO142 := zaa.mk (Kd.zqc (Kd.zld (by (with_reducible repeat (first | apply Kd.zza | apply Kd.zya | apply Kd.zib)); exact HO142.out) gb144 (Nat.le_of_eq hg.symm)) hb); have BK144 := zaa.mk (hbox); have GW144 := zaa.mk ((by rw [hg]; exact (zja (by repeat (first | (with_reducible first | exact HB.out | apply zda | apply zba | apply zca | refine zea ?_ GE137.out | refine zea ?_ GE138.out) | exact HB.out))) : w.heap.size ≤ gb144)); have GE144 := zaa.mk ((by rw [hg]; exact (zja (by repeat (first | (with_reducible first | exact HB.out | apply zda | apply zba | apply zca | refine zea ?_ GE137.out | refine zea ?_ GE138.out) | exact HB.out))) : w.heap.size ≤ gb144)); replace HB := zaa.mk (zma (by repeat (first | (with_reducible first | exact HB.out | apply zda | apply zba | apply zca | refine zea ?_ GE137.out | refine zea ?_ GE138.out) | exact HB.out)) hb); have NB137_144 := zaa.mk ((by rw [hg]; exact Nat.ne_of_lt (zbc (g := gb137) (o := .cells #[.int .i64 a0_0, .slice A0_1 l0_1.length c0_1] 29 (0, 0)) (by (with_reducible repeat (first | refine zga ?_ _ | refine zha ?_ | refine zfa ?_ _)); exact BK137.out)) : gb137 ≠ gb144)); have NB144_137 := zaa.mk ((by rw [hg]; exact Nat.ne_of_gt (zbc (g := gb137) (o := .cells #[.int .i64 a0_0, .slice A0_1 l0_1.length c0_1] 29 (0, 0)) (by (with_reducible repeat (first | refine zga ?_ _ | refine zha ?_ | refine zfa ?_ _)); exact BK137.out)) : gb144 ≠ gb137)); replace BK137 := zaa.mk (zna (g := gb137) (o := .cells #[.int .i64 a0_0, .slice A0_1 l0_1.length c0_1] 29 (0, 0)) (by (with_reducible repeat (first | refine zga ?_ _ | refine zha ?_ | refine zfa ?_ _)); exact BK137.out) hb); have NB138_144 := zaa.mk ((by rw [hg]; exact Nat.ne_of_lt (zbc (g := gb138) (o := .cells #[.int .i64 0, .slice none 0 0] 66 (0, 0)) (by (with_reducible repeat (first | refine zga ?_ _ | refine zha ?_ | refine zfa ?_ _)); exact BK138.out)) : gb138 ≠ gb144)); have NB144_138 := zaa.mk ((by rw [hg]; exact Nat.ne_of_gt (zbc (g := gb138) (o := .cells #[.int .i64 0, .slice none 0 0] 66 (0, 0)) (by (with_reducible repeat (first | refine zga ?_ _ | refine zha ?_ | refine zfa ?_ _)); exact BK138.out)) : gb144 ≠ gb138)); replace BK138 := zaa.mk (zna (g := gb138) (o := .cells #[.int .i64 0, .slice none 0 0] 66 (0, 0)) (by (with_reducible repeat (first | refine zga ?_ _ | refine zha ?_ | refine zfa ?_ _)); exact BK138.out) hb); clear hb hbox hg; have hnb11 := NB144_137.out; have hnc11 := NB137_144.out; have hnb12 := NB144_138.out; have hnc12 := NB138_144.out; have hcz13_0 : w10.cell? ⟨gb144, 0, none⟩ = some (.int .i64 0) := (zla BK144.out 0).trans rfl; have hcz13_1 : w10.cell? ⟨gb144, 1, none⟩ = some (.slice none 0 0) := (zla BK144.out 1).trans rfl; have hfz13_0 := zka BK144.out 0; have hfz13_1 := zka BK144.out 1; obtain ⟨Ao14, co14, eo14⟩ := Kd.V_slice HO142.out; subst eo14))
   go_loopg [22] k (fun kq v22 w' => ∃ (x22_1 : Int) (x139000_1 : Int), v22 = .int .i64 x22_1 ∧ zaa (zqd.l0 kq l1 (l1.length : Int) x22_1 t139 t140 = some (r1, r2, r3)) ∧ zaa (kq ≤ k) ∧ zaa (Kd.V (Kd.int .i64) 3 w' w.heap.size (fun k_ => (P0_1_ k_ ∨ w.heap.size ≤ k_) ∧ k_ ≠ gb137 ∧ k_ ≠ gb138 ∧ k_ ≠ gb144) (.slice A0_1 l0_1.length c0_1) l0_1) ∧ zaa (Kd.V (Kd.int .i64) 3 w' w.heap.size (fun k_ => (P0_1_ k_ ∨ w.heap.size ≤ k_) ∧ k_ ≠ gb137 ∧ k_ ≠ gb138 ∧ k_ ≠ gb144) (.slice Ao14 t140.length co14) t140) ∧ zaa (w'.heap[gb137]? = some (.cells #[.int .i64 a0_0, (.slice A0_1 l0_1.length c0_1)] 29 (0, 0))) ∧ zaa (w'.heap[gb138]? = some (.cells #[.int .i64 x139000_1, (.slice none 0 0)] 66 (0, 0))) ∧ zaa (w'.heap[gb144]? = some (.cells #[.int .i64 t139, (.slice Ao14 t140.length co14)] 66 (0, 0))) ∧ zaa (Below w.heap.size w w'))
   case atStart => exact ⟨(0), (0), (by first | rfl | (simp; done) | (simp [*]; done)), H', ⟨Nat.le_refl _⟩, ⟨by (with_reducible repeat (first | apply Kd.zza | apply Kd.zya | apply Kd.zib)); exact Kd.zcc (Kd.zbe (p := ⟨gb144, 1, none⟩) (Kd.zbe (p := ⟨gb144, 0, none⟩) (Kd.zcc HO0_1.out (fun k_ hk => (⟨hk, hk.2⟩ : _ ∧ k_ ≠ gb144))) (fun _ hk => hk.2) (.int .i64 t139)) (fun _ hk => hk.2) (.slice Ao14 t140.length co14)) (fun _ hk => ⟨hk.1.1.1.1, ⟨hk.1.1.1.2, ⟨hk.1.1.2, hk.1.2⟩⟩⟩)⟩, ⟨by (with_reducible repeat (first | apply Kd.zza | apply Kd.zya | apply Kd.zib)); exact Kd.zcc (Kd.zbe (p := ⟨gb144, 1, none⟩) (Kd.zbe (p := ⟨gb144, 0, none⟩) (Kd.zcc HO142.out (fun k_ hk => (⟨hk, hk.2⟩ : _ ∧ k_ ≠ gb144))) (fun _ hk => hk.2) (.int .i64 t139)) (fun _ hk => hk.2) (.slice Ao14 t140.length co14)) (fun _ hk => ⟨hk.1.1.1, ⟨hk.1.1.2.1, ⟨hk.1.1.2.2, hk.1.2⟩⟩⟩)⟩, ⟨by (with_reducible repeat (first | refine zga ?_ _ | refine zha ?_ | refine zfa ?_ _)); refine zsc ?_ NB137_144.out _; (with_reducible repeat (first | refine zga ?_ _ | refine zha ?_ | refine zfa ?_ _)); refine zsc ?_ NB137_144.out _; (with_reducible repeat (first | refine zga ?_ _ | refine zha ?_ | refine zfa ?_ _)); exact BK137.out⟩, ⟨by (with_reducible repeat (first | refine zga ?_ _ | refine zha ?_ | refine zfa ?_ _)); refine zsc ?_ NB138_144.out _; (with_reducible repeat (first | refine zga ?_ _ | refine zha ?_ | refine zfa ?_ _)); refine zsc ?_ NB138_144.out _; (with_reducible repeat (first | refine zga ?_ _ | refine zha ?_ | refine zfa ?_ _)); exact BK138.out⟩, ⟨by (with_reducible repeat (first | refine zga ?_ _ | refine zha ?_ | refine zfa ?_ _)); refine zzc (cs := #[.int .i64 t139, .slice none 0 0]) ?_ 1 _ rfl; (with_reducible repeat (first | refine zga ?_ _ | refine zha ?_ | refine zfa ?_ _)); refine zzc (cs := #[.int .i64 0, .slice none 0 0]) ?_ 0 _ rfl; (with_reducible repeat (first | refine zga ?_ _ | refine zha ?_ | refine zfa ?_ _)); exact BK144.out⟩, ⟨by repeat (first | (with_reducible first | exact HB.out | apply zda | apply zba | apply zca | refine zea ?_ GE137.out | refine zea ?_ GE138.out | refine zea ?_ GE144.out) | exact HB.out)⟩⟩
   case round =>
    clear H'
    try clear c1
    try clear p2
    try clear c3
    try clear c4
    try clear c4b0
    try clear c4b1
    try clear c7
    try clear c11
    try clear c12
    try clear hcz13_0
    try clear hcz13_1
    try clear hcz8_0
    try clear hcz8_1
    try clear hfz13_0
    try clear hfz13_1
    try clear hfz8_0
    try clear hfz8_1
    obtain ⟨x22_1, x139000_1, rfl, HA, HK1, HO_138001, HO_145001, BK137, BK138, BK144, HB⟩ := hrel
    cases gk with
    | zero => exact absurd HA.out (by simp [zqd.l0])
    | succ k1 =>
     have H := HA.out
     clear HA
     simp only [zqd.l0] at H
     by_cases c15 : x22_1 < (l1.length : Int)
     · rw [if_pos c15] at H
       have c15b0 : decide (x22_1 < (l1.length : Int)) = true := decide_eq_true c15
       clear c15
       by_cases c16 : 0 ≤ x22_1
       · rw [if_pos c16] at H
         have c16b0 : decide (0 ≤ x22_1) = true := decide_eq_true c16
         clear c16
         by_cases c17 : x22_1 < (l1.length : Int)
         · rw [if_pos c17] at H
           have c17b0 : decide (x22_1 < (l1.length : Int)) = true := decide_eq_true c17
           clear c17
           replace H := Option.bind_eq_some_iff.mp H
           obtain ⟨t146, A180, H⟩ := H
           replace H : (if t146 = 0 then (zqd.l0 k1 l1 (l1.length : Int) (wrap64 (x22_1 + 1)) t139 t140) else (none)) = some (r1, r2, r3) := H
           have A18 := zaa.mk A180
           clear A180
           by_cases c19 : t146 = 0
           · rw [if_pos c19] at H
             have c19b0 : (t146 == 0) = true := beq_iff_eq.mpr c19
             have c19b1 : (t146 != 0) = false := bne_eq_false_iff_eq.mpr c19
             clear c19
             have H' := zaa.mk H
             clear H
             have p145 : 0 ≤ (x22_1 : Int) := of_decide_eq_true (by first | (with_reducible assumption) | assumption)
             have q145 : x22_1 < (l1.length : Int) := of_decide_eq_true (by first | (with_reducible assumption) | assumption)
             obtain ⟨ad145, A145_0, c145_0, e145, hx145_0, hl145_0, hi145_0⟩ := at_L2 HR1.out x22_1 p145 q145
             cases e145
             replace hx145_0 := (HB.out.cell (World.block_lt_of_cell? w _ hx145_0)).trans hx145_0
             have HR145_0 := zaa.mk hi145_0
             have HC145_0 := zaa.mk hl145_0
             clear hi145_0 hl145_0
             replace p145 := eq_true p145
             replace q145 := eq_true q145
             have hnb20 := NB144_137.out
             have hnc20 := NB137_144.out
             have hnb21 := NB144_138.out
             have hnc21 := NB138_144.out
             have hcz22_0 : wr.cell? ⟨gb144, 0, none⟩ = some (.int .i64 t139) := (zla BK144.out 0).trans rfl
             have hcz22_1 : wr.cell? ⟨gb144, 1, none⟩ = some (.slice Ao14 t140.length co14) := (zla BK144.out 1).trans rfl
             have hfz22_0 := zka BK144.out 0
             have hfz22_1 := zka BK144.out 1
             go_wp2_with (first | ((with_reducible refine zxa (f := 33) rfl ?_); refine zhd (some 28) rfl rfl Tryz.func33 (by kernel_rfl) rfl #[.agg #[.int .i64 t139, .slice Ao14 t140.length co14], .slice A145_0 (rd_L2 l1 x22_1).length c145_0] rfl (by (try simp only [List.map_toArray, List.map_cons, List.map_nil]); first | done | rfl | (simp only [List.length_drop, List.length_take]; rfl)) ?_; (with_reducible refine (zyc.calls k1 t139 _ _ t140 _ _ (rd_L2 l1 x22_1) t146 _ ?side1 ?side2 ?side3 ?side4 A18.out).mono ?_); (case side1 => repeat (first | exact (Kd.zwd HO_145001.out).2.2 | (with_reducible refine Kd.zrb ?_ _) | (with_reducible refine Kd.zqb ?_ _) | (with_reducible refine Kd.zmc ?_))); (case side2 => exact (Kd.zwd HO_145001.out).2.1); (case side3 => repeat (first | exact (Kd.zkc HR145_0.out HB.out) | (with_reducible refine Kd.zrb ?_ _) | (with_reducible refine Kd.zqb ?_ _) | (with_reducible refine Kd.zmc ?_))); (case side4 => exact HC145_0.out); rintro e w23 ⟨rfl, hb⟩; refine ⟨_, rfl, ?_⟩; replace HO_138001 := zaa.mk (Kd.zqc (by (with_reducible repeat (first | apply Kd.zza | apply Kd.zya | apply Kd.zib)); exact HO_138001.out) hb); replace HO_145001 := zaa.mk (Kd.zqc (by (with_reducible repeat (first | apply Kd.zza | apply Kd.zya | apply Kd.zib)); exact HO_145001.out) hb); replace BK137 := zaa.mk (zna (g := gb137) (o := .cells #[.int .i64 a0_0, .slice A0_1 l0_1.length c0_1] 29 (0, 0)) (by (with_reducible repeat (first | refine zga ?_ _ | refine zha ?_ | refine zfa ?_ _)); exact BK137.out) hb); replace BK138 := zaa.mk (zna (g := gb138) (o := .cells #[.int .i64 x139000_1, .slice none 0 0] 66 (0, 0)) (by (with_reducible repeat (first | refine zga ?_ _ | refine zha ?_ | refine zfa ?_ _)); exact BK138.out) hb); replace BK144 := zaa.mk (zna (g := gb144) (o := .cells #[.int .i64 t139, .slice Ao14 t140.length co14] 66 (0, 0)) (by (with_reducible repeat (first | refine zga ?_ _ | refine zha ?_ | refine zfa ?_ _)); exact BK144.out) hb); replace HB := zaa.mk (zma (by repeat (first | (with_reducible first | exact HB.out | apply zda | apply zba | apply zca | refine zea ?_ GE137.out | refine zea ?_ GE138.out | refine zea ?_ GE144.out) | exact HB.out)) hb); (try clear hb); (try clear hb2); (try clear hk); (try clear hi)))
             go_roundg k1
             case measure => have := HK1.out; omega
             case rel => exact ⟨(wrap64 (x22_1 + 1)), (x139000_1), (by first | rfl | (simp; done) | (simp [*]; done)), H', ⟨by have := HK1.out; omega⟩, ⟨by (with_reducible repeat (first | apply Kd.zza | apply Kd.zya | apply Kd.zib)); exact HO_138001.out⟩, ⟨by (with_reducible repeat (first | apply Kd.zza | apply Kd.zya | apply Kd.zib)); exact HO_145001.out⟩, ⟨by (with_reducible repeat (first | refine zga ?_ _ | refine zha ?_ | refine zfa ?_ _)); exact BK137.out⟩, ⟨by (with_reducible repeat (first | refine zga ?_ _ | refine zha ?_ | refine zfa ?_ _)); exact BK138.out⟩, ⟨by (with_reducible repeat (first | refine zga ?_ _ | refine zha ?_ | refine zfa ?_ _)); exact BK144.out⟩, ⟨by repeat (first | (with_reducible first | exact HB.out | apply zda | apply zba | apply zca | refine zea ?_ GE137.out | refine zea ?_ GE138.out | refine zea ?_ GE144.out) | exact HB.out)⟩⟩
           · rw [if_neg c19] at H
             have c19b0 : (t146 == 0) = false := beq_eq_false_iff_ne.mpr c19
             have c19b1 : (t146 != 0) = true := bne_iff_ne.mpr c19
             exact absurd H (by simp)
         · rw [if_neg c17] at H
           exact absurd H (by simp)
       · rw [if_neg c16] at H
         exact absurd H (by simp)
     · rw [if_neg c15] at H
       have c15b0 : decide (x22_1 < (l1.length : Int)) = false := decide_eq_false c15
       clear c15
       simp only [Option.some.injEq, Prod.mk.injEq] at H
       obtain ⟨rfl, rfl, rfl⟩ := H
       have hnb24 := NB144_137.out
       have hnc24 := NB137_144.out
       have hnb25 := NB144_138.out
       have hnc25 := NB138_144.out
       have hcz26_0 : wr.cell? ⟨gb144, 0, none⟩ = some (.int .i64 t139) := (zla BK144.out 0).trans rfl
       have hcz26_1 : wr.cell? ⟨gb144, 1, none⟩ = some (.slice Ao14 t140.length co14) := (zla BK144.out 1).trans rfl
       have hfz26_0 := zka BK144.out 0
       have hfz26_1 := zka BK144.out 1
       have hnb27 := NB138_137.out
       have hnc27 := NB137_138.out
       have hcz28_0 : wr.cell? ⟨gb138, 0, none⟩ = some (.int .i64 x139000_1) := (zla BK138.out 0).trans rfl
       have hcz28_1 : wr.cell? ⟨gb138, 1, none⟩ = some (.slice none 0 0) := (zla BK138.out 1).trans rfl
       have hfz28_0 := zka BK138.out 0
       have hfz28_1 := zka BK138.out 1
       go_wp2
       refine bodyPost_ret (results_ct rfl _ _ gb138 66 #[.int .i64 t139, .slice Ao14 t140.length co14] (0, 0) _ rfl (by (with_reducible repeat (first | refine zga ?_ _ | refine zha ?_ | refine zfa ?_ _)); refine zzc (cs := #[.int .i64 t139, .slice none 0 0]) ?_ 1 _ rfl; (with_reducible repeat (first | refine zga ?_ _ | refine zha ?_ | refine zfa ?_ _)); refine zzc (cs := #[.int .i64 x139000_1, .slice none 0 0]) ?_ 0 _ rfl; (with_reducible repeat (first | refine zga ?_ _ | refine zha ?_ | refine zfa ?_ _)); exact BK138.out) Tryz.underlying66 rfl (by kernel_rfl)) rfl ?_
       exact ⟨_, by first | rfl | (simp [zwa, zva] <;> rfl) | (simp [*, zwa, zva] <;> rfl), by (with_reducible repeat (first | apply Kd.zza | apply Kd.zya | apply Kd.zib)); exact Kd.zcc (Kd.zbe (p := ⟨gb138, 1, none⟩) (Kd.zbe (p := ⟨gb138, 0, none⟩) (Kd.zcc HO_145001.out (fun k_ hk => (⟨hk, hk.2.2.1⟩ : _ ∧ k_ ≠ gb138))) (fun _ hk => hk.2) (.int .i64 t139)) (fun _ hk => hk.2) (.slice Ao14 t140.length co14)) (fun _ hk => hk.1.1), by repeat (first | (with_reducible first | exact HB.out | apply zda | apply zba | apply zca | refine zea ?_ GE137.out | refine zea ?_ GE138.out | refine zea ?_ GE144.out) | exact HB.out)⟩
 · rw [if_neg c4] at H
   have c4b0 : (t143 == 0) = false := beq_eq_false_iff_ne.mpr c4
   have c4b1 : (t143 != 0) = true := bne_iff_ne.mpr c4
   exact absurd H (by simp)
end Go.Proofs.YtoacbkoenkiahaaGreat.PTopGluePlate
end
section
namespace Go.Proofs.YtoacbkoenkiahaaGreat.PTopGluePlate
open Go.RowKit Go.Proofs.YtoacbkoenkiahaaGreatW.PrintWords Go.Proofs.YtoacbkoenkiahaaGreatW.PrintLast Go.Proofs.YtoacbkoenkiahaaGreatW.PrintMore
attribute [local go_sem] znb zlb zhc zgc zeb zdb zmb zkb
set_option linter.unusedVariables false
set_option linter.unusedSimpArgs false
def zlc.f (l0 : List Int) : Option (List Int) := if l0.length < 17592186044416 then some l0 else none
set_option maxHeartbeats 8000000 in
set_option maxRecDepth 100000 in
theorem zlc.calls (A0 : Option Addr) (c0 : Nat) (l0 : List Int) (r : List Int) (w : World) (hr0 : Kd.C (Kd.int .i64) w A0 l0.length l0) (hc0 : l0.length ≤ c0) (h : zlc.f l0 = some r) :
 Calls Tryz.prog 35 #[.slice A0 l0.length c0] w fun e w' => ∃ v0_ : Value, e = .returned (v0_) ∧ Kd.R (Kd.int .i64) 3 w' w.heap.size (fun _ => True) v0_ r ∧ Below w.heap.size w w' := by
 have hnil := fun (W : World) => Lib.run_eql_slice_nil (P := Tryz.prog) W 24 3 A0 l0.length c0 0 0 Tryz.underlying24
 have HB := zaa.mk (Below.refl w.heap.size w)
 have LM : zaa (l0.length < 17592186044416) := ⟨by unfold zlc.f at h; split at h <;> first | assumption | cases h⟩
 have hrl : l0 = r := by unfold zlc.f at h; rw [if_pos LM.out] at h; exact Option.some.inj h
 subst hrl
 cases A0 with
 | none =>
  have hl : l0 = [] := by
   by_cases hp : 0 < l0.length
   · obtain ⟨ad, e, _⟩ := hr0.2.2 hp; cases e
   · exact List.eq_nil_of_length_eq_zero (by omega)
  subst hl
  simp only [Option.isNone_none, List.length_nil] at hnil
  clear h hr0 hc0
  go_enter Tryz.func35, Tryz.ntmps35
  go_wp2
  go_ret
  exact ⟨_, rfl, Kd.R_nil _ _ _ _ _, HB.out⟩
 | some ad =>
  simp only [Option.isNone_some] at hnil
  have HR0 := zaa.mk hr0
  clear h hr0 hc0
  obtain ⟨y101, hy101⟩ : ∃ y_ : List Int, y_ = (([] : List Int)) := ⟨_, rfl⟩
  have Ny101 := zaa.mk hy101
  have Ny104 : zaa (l0 = y101 ++ l0) := ⟨by rw [hy101]; rfl⟩
  have LMc2 : zaa (y101.length + l0.length < 17592186044416) := ⟨by have := LM.out; rw [hy101]; simp; omega⟩
  clear hy101
  go_enter Tryz.func35, Tryz.ntmps35
  go_wp2_with (first | ((with_reducible refine zbb (N := 5) rfl ?_); refine Kd.R_lit (Kd.int .i64) _ 3 ?hg (N := 5) ?hd (xs := ([] : List Int)) (inner := []) (ok := fun _ => True) (okp := fun _ => True) ?hr ?hp (fun _ hk => hk) trivial (Below.refl _ _) (Nat.le_refl _) (by simp) ?_; (case hd => rfl); (case hg => rfl); (case hr => first | (go_simp; done) | (go_simp; rfl)); (case hp => exact (Reps.none _ _)); intro v102 w3 ho4 hb hg_ hnew_; clear hg_ hnew_; (rw [← Ny101.out] at ho4); have HO103 := zaa.mk (Kd.znd ho4 (zja HB.out)); replace HB := zaa.mk (zma HB.out hb); clear hb ho4) | ((with_reducible refine gate_builtin (b := .append) (xs := #[.tmp 5, .tmp 6]) rfl ?_); at_builtin; refine Kd.R_append_rows (Kd.int .i64) (w0 := w) w.heap.size rfl (.tmp 5) (.tmp 6) 24 3 (.int .i64 0) 8 rfl Tryz.underlying24 info3 rfl (by decide) (by omega) v102 y101 l0 _ _ _ (fun _ => True) (fun _ => False) rfl rfl ?aO ?aR (fun _ _ h => h) (fun _ h => h.elim) ?aF ?aB ?aS ?aL ?_; (case aR => exact (Kd.zkc HR0.out HB.out)); (case aB => exact HB.out); (case aF => exact (fun _ _ => trivial)); (case aO => exact HO103.out); (case aS => exact (zja HB.out)); (case aL => have := LMc2.out; omega); intro v105 w5 ho hb hg hat; rw [← Ny104.out] at ho; replace HB := zaa.mk (hb); have HO106 := zaa.mk (ho); clear HO103; clear ho hb hg hat))
  go_ret
  exact ⟨_, rfl, HO106.out, HB.out⟩
end Go.Proofs.YtoacbkoenkiahaaGreat.PTopGluePlate
end
section
namespace Go.Proofs.YtoacbkoenkiahaaGreat.PTopGluePlate
open Go.RowKit Go.Proofs.YtoacbkoenkiahaaGreatW.PrintWords Go.Proofs.YtoacbkoenkiahaaGreatW.PrintLast Go.Proofs.YtoacbkoenkiahaaGreatW.PrintMore
attribute [local go_sem] znb zlb zhc zgc zeb zdb zmb zkb
set_option linter.unusedVariables false
set_option linter.unusedSimpArgs false
def glue_plan_gives.f (a0_0 : Int) (l0_1 : List Int) (a1 : Int) (a2 : Int) (a3 : Int) : Option (Int) := if a2 = 1 then (some 0) else (if a2 = 2 then (if 0 ≤ a0_0 then (some (Go.bits .and .i64 (Go.bits .or .i64 a1 (wrap64 (a1 * 2))) (wrap64 ((shl .i64 1 a0_0) - 1)))) else (none)) else (if a2 = 3 then (some (Go.bits .and .i64 a1 (wrap64 (a1 * 2)))) else (if a2 = 4 then (if (Int.tmod a3 2) = 1 then (some 0) else (some a1)) else (some a1))))
set_option maxHeartbeats 8000000 in
set_option maxRecDepth 100000 in
theorem glue_plan_gives.calls (a0_0 : Int) (A0_1 : Option Addr) (c0_1 : Nat) (l0_1 : List Int) (a1 : Int) (a2 : Int) (a3 : Int) (r : Int) (w : World) (hr0_1 : Kd.C (Kd.int .i64) w A0_1 l0_1.length l0_1) (hc0_1 : l0_1.length ≤ c0_1) (h : glue_plan_gives.f a0_0 l0_1 a1 a2 a3 = some r) :
 Calls Tryz.prog 36 #[.agg #[.int .i64 a0_0, .slice A0_1 l0_1.length c0_1], .int .i64 a1, .int .i64 a2, .int .i64 a3] w fun e w' => e = .returned (.int .i64 r) ∧ Below w.heap.size w w' := by
 have hu66 := Tryz.underlying66
 have HR0_1 := zaa.mk hr0_1
 have HC0_1 := zaa.mk hc0_1
 clear hr0_1 hc0_1
 have HB := zaa.mk (Below.refl w.heap.size w)
 have H : (if a2 = 1 then (some 0) else (if a2 = 2 then (if 0 ≤ a0_0 then (some (Go.bits .and .i64 (Go.bits .or .i64 a1 (wrap64 (a1 * 2))) (wrap64 ((shl .i64 1 a0_0) - 1)))) else (none)) else (if a2 = 3 then (some (Go.bits .and .i64 a1 (wrap64 (a1 * 2)))) else (if a2 = 4 then (if (Int.tmod a3 2) = 1 then (some 0) else (some a1)) else (some a1))))) = some r := h
 clear h
 by_cases c5 : a2 = 1
 · rw [if_pos c5] at H
   have c5b0 : (a2 == 1) = true := beq_iff_eq.mpr c5
   have c5b1 : (a2 != 1) = false := bne_eq_false_iff_eq.mpr c5
   clear c5
   obtain rfl := Option.some.inj H
   go_enter Tryz.func36, Tryz.ntmps36
   go_wp2_with (first | ((with_reducible refine zbb (N := 4) rfl ?_); refine zob ?hg (N := 4) ?hd (cs := #[.int .i64 a0_0, .slice A0_1 l0_1.length c0_1]) (t := 66) ?hr ?_; (case hd => rfl); (case hg => rfl); (case hr => first | (go_simp; done) | (go_simp; rfl)); intro gb147 hg w6 hbox hb; have BK147 := zaa.mk (hbox); have GW147 := zaa.mk ((by rw [hg]; exact (zja (by repeat (first | (with_reducible first | exact HB.out | apply zda | apply zba | apply zca) | exact HB.out))) : w.heap.size ≤ gb147)); have GE147 := zaa.mk ((by rw [hg]; exact (zja (by repeat (first | (with_reducible first | exact HB.out | apply zda | apply zba | apply zca) | exact HB.out))) : w.heap.size ≤ gb147)); replace HB := zaa.mk (zma (by repeat (first | (with_reducible first | exact HB.out | apply zda | apply zba | apply zca) | exact HB.out)) hb); clear hb hbox hg))
   go_ret
   exact ⟨by first | rfl | (simp [zwa, zva] <;> rfl) | (simp [*, zwa, zva] <;> rfl), by repeat (first | (with_reducible first | exact HB.out | apply zda | apply zba | apply zca | refine zea ?_ GE147.out) | exact HB.out)⟩
 · rw [if_neg c5] at H
   have c5b0 : (a2 == 1) = false := beq_eq_false_iff_ne.mpr c5
   have c5b1 : (a2 != 1) = true := bne_iff_ne.mpr c5
   by_cases c7 : a2 = 2
   · rw [if_pos c7] at H
     have c7b0 : (a2 == 2) = true := beq_iff_eq.mpr c7
     have c7b1 : (a2 != 2) = false := bne_eq_false_iff_eq.mpr c7
     clear c7
     by_cases c8 : 0 ≤ a0_0
     · rw [if_pos c8] at H
       have c8b0 := eq_true c8
       have c8b1 : decide (0 ≤ a0_0) = true := decide_eq_true c8
       clear c8
       obtain ⟨ji9, hji9⟩ : ∃ j_ : Int, (shl .i64 1 a0_0) = j_ := ⟨_, rfl⟩
       replace H : (some (Go.bits .and .i64 (Go.bits .or .i64 a1 (wrap64 (a1 * 2))) (wrap64 ((ji9) - 1)))) = some r := by first | (rw [hji9] at H; exact H) | (simp only [hji9] at H ⊢; exact H)
       have hji9_ : (IntKind.i64.wrap (1 * 2 ^ min a0_0.toNat 64)) = ji9 := hji9
       have hji9z : a0_0 ≤ 64 → (IntKind.i64.wrap (1 * 2 ^ a0_0.toNat)) = ji9 := shl_small hji9
       have hji9u : (IntKind.i64.wrap (2 ^ min a0_0.toNat 64)) = ji9 := by have h_ := hji9_; rw [Int.one_mul] at h_; exact h_
       have hji9v : a0_0 ≤ 64 → (IntKind.i64.wrap (2 ^ a0_0.toNat)) = ji9 := fun hle_ => by have h_ := hji9z hle_; rw [Int.one_mul] at h_; exact h_
       have hji9y : (wrap64 (1 * 2 ^ min a0_0.toNat 64)) = ji9 := (zpb _).symm.trans hji9_
       have hji9x : a0_0 ≤ 64 → (wrap64 (1 * 2 ^ a0_0.toNat)) = ji9 := fun h_ => (zpb _).symm.trans (hji9z h_)
       obtain rfl := Option.some.inj H
       go_enter Tryz.func36, Tryz.ntmps36
       go_wp2_with (first | ((with_reducible refine zbb (N := 4) rfl ?_); refine zob ?hg (N := 4) ?hd (cs := #[.int .i64 a0_0, .slice A0_1 l0_1.length c0_1]) (t := 66) ?hr ?_; (case hd => rfl); (case hg => rfl); (case hr => first | (go_simp; done) | (go_simp; rfl)); intro gb147 hg w10 hbox hb; have BK147 := zaa.mk (hbox); have GW147 := zaa.mk ((by rw [hg]; exact (zja (by repeat (first | (with_reducible first | exact HB.out | apply zda | apply zba | apply zca) | exact HB.out))) : w.heap.size ≤ gb147)); have GE147 := zaa.mk ((by rw [hg]; exact (zja (by repeat (first | (with_reducible first | exact HB.out | apply zda | apply zba | apply zca) | exact HB.out))) : w.heap.size ≤ gb147)); replace HB := zaa.mk (zma (by repeat (first | (with_reducible first | exact HB.out | apply zda | apply zba | apply zca) | exact HB.out)) hb); clear hb hbox hg; have hcz11_0 : w10.cell? ⟨gb147, 0, none⟩ = some (.int .i64 a0_0) := (zla BK147.out 0).trans rfl; have hcz11_1 : w10.cell? ⟨gb147, 1, none⟩ = some (.slice A0_1 l0_1.length c0_1) := (zla BK147.out 1).trans rfl; have hfz11_0 := zka BK147.out 0; have hfz11_1 := zka BK147.out 1))
       go_ret
       exact ⟨by first | rfl | (simp [zwa, zva] <;> rfl) | (simp only [← hji9]; first | rfl | (simp [zwa, zva] <;> rfl)) | (simp [*, zwa, zva] <;> rfl), by repeat (first | (with_reducible first | exact HB.out | apply zda | apply zba | apply zca | refine zea ?_ GE147.out) | exact HB.out)⟩
     · rw [if_neg c8] at H
       exact absurd H (by simp)
   · rw [if_neg c7] at H
     have c7b0 : (a2 == 2) = false := beq_eq_false_iff_ne.mpr c7
     have c7b1 : (a2 != 2) = true := bne_iff_ne.mpr c7
     by_cases c12 : a2 = 3
     · rw [if_pos c12] at H
       have c12b0 : (a2 == 3) = true := beq_iff_eq.mpr c12
       have c12b1 : (a2 != 3) = false := bne_eq_false_iff_eq.mpr c12
       clear c12
       obtain rfl := Option.some.inj H
       go_enter Tryz.func36, Tryz.ntmps36
       go_wp2_with (first | ((with_reducible refine zbb (N := 4) rfl ?_); refine zob ?hg (N := 4) ?hd (cs := #[.int .i64 a0_0, .slice A0_1 l0_1.length c0_1]) (t := 66) ?hr ?_; (case hd => rfl); (case hg => rfl); (case hr => first | (go_simp; done) | (go_simp; rfl)); intro gb147 hg w13 hbox hb; have BK147 := zaa.mk (hbox); have GW147 := zaa.mk ((by rw [hg]; exact (zja (by repeat (first | (with_reducible first | exact HB.out | apply zda | apply zba | apply zca) | exact HB.out))) : w.heap.size ≤ gb147)); have GE147 := zaa.mk ((by rw [hg]; exact (zja (by repeat (first | (with_reducible first | exact HB.out | apply zda | apply zba | apply zca) | exact HB.out))) : w.heap.size ≤ gb147)); replace HB := zaa.mk (zma (by repeat (first | (with_reducible first | exact HB.out | apply zda | apply zba | apply zca) | exact HB.out)) hb); clear hb hbox hg))
       go_ret
       exact ⟨by first | rfl | (simp [zwa, zva] <;> rfl) | (simp [*, zwa, zva] <;> rfl), by repeat (first | (with_reducible first | exact HB.out | apply zda | apply zba | apply zca | refine zea ?_ GE147.out) | exact HB.out)⟩
     · rw [if_neg c12] at H
       have c12b0 : (a2 == 3) = false := beq_eq_false_iff_ne.mpr c12
       have c12b1 : (a2 != 3) = true := bne_iff_ne.mpr c12
       by_cases c14 : a2 = 4
       · rw [if_pos c14] at H
         have c14b0 : (a2 == 4) = true := beq_iff_eq.mpr c14
         have c14b1 : (a2 != 4) = false := bne_eq_false_iff_eq.mpr c14
         clear c14
         by_cases c15 : (Int.tmod a3 2) = 1
         · rw [if_pos c15] at H
           have c15b0 : ((Int.tmod a3 2) == 1) = true := beq_iff_eq.mpr c15
           have c15b1 : ((Int.tmod a3 2) != 1) = false := bne_eq_false_iff_eq.mpr c15
           clear c15
           obtain rfl := Option.some.inj H
           go_enter Tryz.func36, Tryz.ntmps36
           go_wp2_with (first | ((with_reducible refine zbb (N := 4) rfl ?_); refine zob ?hg (N := 4) ?hd (cs := #[.int .i64 a0_0, .slice A0_1 l0_1.length c0_1]) (t := 66) ?hr ?_; (case hd => rfl); (case hg => rfl); (case hr => first | (go_simp; done) | (go_simp; rfl)); intro gb147 hg w16 hbox hb; have BK147 := zaa.mk (hbox); have GW147 := zaa.mk ((by rw [hg]; exact (zja (by repeat (first | (with_reducible first | exact HB.out | apply zda | apply zba | apply zca) | exact HB.out))) : w.heap.size ≤ gb147)); have GE147 := zaa.mk ((by rw [hg]; exact (zja (by repeat (first | (with_reducible first | exact HB.out | apply zda | apply zba | apply zca) | exact HB.out))) : w.heap.size ≤ gb147)); replace HB := zaa.mk (zma (by repeat (first | (with_reducible first | exact HB.out | apply zda | apply zba | apply zca) | exact HB.out)) hb); clear hb hbox hg))
           go_ret
           exact ⟨by first | rfl | (simp [zwa, zva] <;> rfl) | (simp [*, zwa, zva] <;> rfl), by repeat (first | (with_reducible first | exact HB.out | apply zda | apply zba | apply zca | refine zea ?_ GE147.out) | exact HB.out)⟩
         · rw [if_neg c15] at H
           have c15b0 : ((Int.tmod a3 2) == 1) = false := beq_eq_false_iff_ne.mpr c15
           have c15b1 : ((Int.tmod a3 2) != 1) = true := bne_iff_ne.mpr c15
           obtain rfl := Option.some.inj H
           go_enter Tryz.func36, Tryz.ntmps36
           go_wp2_with (first | ((with_reducible refine zbb (N := 4) rfl ?_); refine zob ?hg (N := 4) ?hd (cs := #[.int .i64 a0_0, .slice A0_1 l0_1.length c0_1]) (t := 66) ?hr ?_; (case hd => rfl); (case hg => rfl); (case hr => first | (go_simp; done) | (go_simp; rfl)); intro gb147 hg w17 hbox hb; have BK147 := zaa.mk (hbox); have GW147 := zaa.mk ((by rw [hg]; exact (zja (by repeat (first | (with_reducible first | exact HB.out | apply zda | apply zba | apply zca) | exact HB.out))) : w.heap.size ≤ gb147)); have GE147 := zaa.mk ((by rw [hg]; exact (zja (by repeat (first | (with_reducible first | exact HB.out | apply zda | apply zba | apply zca) | exact HB.out))) : w.heap.size ≤ gb147)); replace HB := zaa.mk (zma (by repeat (first | (with_reducible first | exact HB.out | apply zda | apply zba | apply zca) | exact HB.out)) hb); clear hb hbox hg))
           go_ret
           exact ⟨by first | rfl | (simp [zwa, zva] <;> rfl) | (simp [*, zwa, zva] <;> rfl), by repeat (first | (with_reducible first | exact HB.out | apply zda | apply zba | apply zca | refine zea ?_ GE147.out) | exact HB.out)⟩
       · rw [if_neg c14] at H
         have c14b0 : (a2 == 4) = false := beq_eq_false_iff_ne.mpr c14
         have c14b1 : (a2 != 4) = true := bne_iff_ne.mpr c14
         obtain rfl := Option.some.inj H
         go_enter Tryz.func36, Tryz.ntmps36
         go_wp2_with (first | ((with_reducible refine zbb (N := 4) rfl ?_); refine zob ?hg (N := 4) ?hd (cs := #[.int .i64 a0_0, .slice A0_1 l0_1.length c0_1]) (t := 66) ?hr ?_; (case hd => rfl); (case hg => rfl); (case hr => first | (go_simp; done) | (go_simp; rfl)); intro gb147 hg w18 hbox hb; have BK147 := zaa.mk (hbox); have GW147 := zaa.mk ((by rw [hg]; exact (zja (by repeat (first | (with_reducible first | exact HB.out | apply zda | apply zba | apply zca) | exact HB.out))) : w.heap.size ≤ gb147)); have GE147 := zaa.mk ((by rw [hg]; exact (zja (by repeat (first | (with_reducible first | exact HB.out | apply zda | apply zba | apply zca) | exact HB.out))) : w.heap.size ≤ gb147)); replace HB := zaa.mk (zma (by repeat (first | (with_reducible first | exact HB.out | apply zda | apply zba | apply zca) | exact HB.out)) hb); clear hb hbox hg))
         go_ret
         exact ⟨by first | rfl | (simp [zwa, zva] <;> rfl) | (simp [*, zwa, zva] <;> rfl), by repeat (first | (with_reducible first | exact HB.out | apply zda | apply zba | apply zca | refine zea ?_ GE147.out) | exact HB.out)⟩
end Go.Proofs.YtoacbkoenkiahaaGreat.PTopGluePlate
end
section
namespace Go.Proofs.YtoacbkoenkiahaaGreat.PTopGluePlate
open Go.RowKit Go.Proofs.YtoacbkoenkiahaaGreatW.PrintWords Go.Proofs.YtoacbkoenkiahaaGreatW.PrintLast Go.Proofs.YtoacbkoenkiahaaGreatW.PrintMore
attribute [local go_sem] znb zlb zhc zgc zeb zdb zmb zkb
set_option linter.unusedVariables false
set_option linter.unusedSimpArgs false
def zfb.l0 : Nat → Int → List Int → List (S32) → Int → Int → Int → List Int → Option (List Int)
 | 0, _, _, _, _, _, _, _ => none
 | k + 1, x2, x7, x14, x15, x16, x149000, x149001 => if x16 < x15 then (if 0 ≤ x16 then (if x16 < (x14.length : Int) then (if x2 ≥ ((zta x14 x16).f2) then (if 0 ≤ ((zta x14 x16).f0) then (if ((zta x14 x16).f0) < (x7.length : Int) then ((glue_plan_gives.f x149000 x149001 (rd x7 ((zta x14 x16).f0)) ((zta x14 x16).f1) x2).bind fun t155 => (zfb.l0 k x2 (x7.set (((zta x14 x16).f0) : Int).toNat t155) x14 x15 (wrap64 (x16 + 1)) x149000 x149001)) else (none)) else (none)) else (zfb.l0 k x2 x7 x14 x15 (wrap64 (x16 + 1)) x149000 x149001)) else (none)) else (none)) else (some x7)
def zfb.f (k : Nat) (a0_0 : Int) (l0_1 : List Int) (l1 : List (S32)) (a2 : Int) : Option (List Int) := (zlc.f l0_1).bind fun t149 => (zfb.l0 k a2 t149 l1 (l1.length : Int) 0 a0_0 l0_1)
def zfb.T6 : Bool × List (List Nat × List Nat) := (true, [([], []), ([], []), ([1], [1]), ([], []), ([], []), ([], []), ([5], [5]), ([4, 6], [4, 6]), ([7], [7]), ([], []), ([9], [9]), ([], []), ([3, 8, 10, 11], [3, 8, 10, 11]), ([0, 2, 0, 1, 2, 3, 4, 5, 6, 7, 8, 9, 10, 11, 12], [0, 2]), ([13, 12, 12, 0, 1, 2, 3, 4, 5, 6, 7, 8, 9, 10, 11, 12], [12, 13])])
def zfb.B6 : List Nat := [0, 0, 2, 0, 0, 0, 32, 112, 240, 0, 512, 0, 4088, 8191, 16383]
theorem zfb.tab6 : rtab .any (opsOf Tryz.f17 6) = zfb.T6 := by kernel_rfl
theorem zfb.bits6 : waitsOk zfb.T6.2 zfb.B6 = true := by kernel_rfl
set_option maxHeartbeats 8000000 in
set_option maxRecDepth 100000 in
theorem zfb.calls (k : Nat) (a0_0 : Int) (A0_1 : Option Addr) (c0_1 : Nat) (l0_1 : List Int) (A1 : Option Addr) (c1 : Nat) (l1 : List (S32)) (a2 : Int) (r : List Int) (w : World) (hr0_1 : Kd.C (Kd.int .i64) w A0_1 l0_1.length l0_1) (hc0_1 : l0_1.length ≤ c0_1) (hr1 : Kd.C k32 w A1 l1.length l1) (hc1 : l1.length ≤ c1) (h : zfb.f k a0_0 l0_1 l1 a2 = some r) :
 Calls Tryz.prog 17 #[.agg #[.int .i64 a0_0, .slice A0_1 l0_1.length c0_1], .slice A1 l1.length c1, .int .i64 a2] w fun e w' => ∃ v0_ : Value, e = .returned (v0_) ∧ Kd.R (Kd.int .i64) 3 w' w.heap.size (fun _ => True) v0_ r ∧ Below w.heap.size w w' := by
 have hu66 := Tryz.underlying66
 have hu32 := Tryz.underlying32
 have HR0_1 := zaa.mk hr0_1
 have HC0_1 := zaa.mk hc0_1
 clear hr0_1 hc0_1
 have HR1 := zaa.mk hr1
 have HC1 := zaa.mk hc1
 clear hr1 hc1
 have HB := zaa.mk (Below.refl w.heap.size w)
 have H : ((zlc.f l0_1).bind fun t149 => (zfb.l0 k a2 t149 l1 (l1.length : Int) 0 a0_0 l0_1)) = some r := h
 clear h
 replace H := Option.bind_eq_some_iff.mp H
 obtain ⟨t149, A40, H⟩ := H
 replace H : (zfb.l0 k a2 t149 l1 (l1.length : Int) 0 a0_0 l0_1) = some r := H
 have A4 := zaa.mk A40
 clear A40
 have H' := zaa.mk H
 clear H
 go_enter Tryz.func17, Tryz.ntmps17
 go_wp2_with (first | ((with_reducible refine zbb (N := 3) rfl ?_); refine zob ?hg (N := 3) ?hd (cs := #[.int .i64 a0_0, .slice A0_1 l0_1.length c0_1]) (t := 66) ?hr ?_; (case hd => rfl); (case hg => rfl); (case hr => first | (go_simp; done) | (go_simp; rfl)); intro gb148 hg w5 hbox hb; have BK148 := zaa.mk (hbox); have GW148 := zaa.mk ((by rw [hg]; exact (zja (by repeat (first | (with_reducible first | exact HB.out | apply zda | apply zba | apply zca) | exact HB.out))) : w.heap.size ≤ gb148)); have GE148 := zaa.mk ((by rw [hg]; exact (zja (by repeat (first | (with_reducible first | exact HB.out | apply zda | apply zba | apply zca) | exact HB.out))) : w.heap.size ≤ gb148)); replace HB := zaa.mk (zma (by repeat (first | (with_reducible first | exact HB.out | apply zda | apply zba | apply zca) | exact HB.out)) hb); clear hb hbox hg; have hcz6_0 : w5.cell? ⟨gb148, 0, none⟩ = some (.int .i64 a0_0) := (zla BK148.out 0).trans rfl; have hcz6_1 : w5.cell? ⟨gb148, 1, none⟩ = some (.slice A0_1 l0_1.length c0_1) := (zla BK148.out 1).trans rfl; have hfz6_0 := zka BK148.out 0; have hfz6_1 := zka BK148.out 1) | ((with_reducible refine zxa (f := 35) rfl ?_); refine zhd (some 13) rfl rfl Tryz.func35 (by kernel_rfl) rfl #[.slice A0_1 l0_1.length c0_1] rfl (by (try simp only [List.map_toArray, List.map_cons, List.map_nil]); first | done | rfl | (simp only [List.length_drop, List.length_take]; rfl)) ?_; (with_reducible refine (zlc.calls _ _ l0_1 t149 _ ?side1 ?side2 A4.out).mono ?_); (case side1 => repeat (first | exact (Kd.zkc HR0_1.out HB.out) | (with_reducible refine Kd.zrb ?_ _) | (with_reducible refine Kd.zqb ?_ _) | (with_reducible refine Kd.zmc ?_))); (case side2 => exact HC0_1.out); rintro e w7 ⟨v150, rfl, ho0, hb⟩; refine ⟨_, rfl, ?_⟩; have HO151 := zaa.mk (Kd.znd ho0 (zja (by repeat (first | (with_reducible first | exact HB.out | apply zda | apply zba | apply zca | refine zea ?_ GE148.out) | exact HB.out)))); replace BK148 := zaa.mk (zna (g := gb148) (o := .cells #[.int .i64 a0_0, .slice A0_1 l0_1.length c0_1] 66 (0, 0)) (by (with_reducible repeat (first | refine zga ?_ _ | refine zha ?_ | refine zfa ?_ _)); exact BK148.out) hb); replace HB := zaa.mk (zma (by repeat (first | (with_reducible first | exact HB.out | apply zda | apply zba | apply zca | refine zea ?_ GE148.out) | exact HB.out)) hb); (try clear hb); (try clear hb2); (try clear hk); (try clear hi); (try clear ho0)))
 go_loopg [16] k (fun kq v16 w' => ∃ (x7_1 : List Int) (x16_1 : Int), v16 = .int .i64 x16_1 ∧ zaa (zfb.l0 kq a2 x7_1 l1 (l1.length : Int) x16_1 a0_0 l0_1 = some r) ∧ zaa (kq ≤ k) ∧ zaa (Kd.R (Kd.int .i64) 3 w' w.heap.size (fun _ => True) v150 x7_1) ∧ zaa (w'.heap[gb148]? = some (.cells #[.int .i64 a0_0, (.slice A0_1 l0_1.length c0_1)] 66 (0, 0))) ∧ zaa (Below w.heap.size w w'))
 case atStart => exact ⟨(t149), (0), (by first | rfl | (simp; done) | (simp [*]; done)), H', ⟨Nat.le_refl _⟩, ⟨by (with_reducible repeat (first | apply Kd.zqa | apply Kd.zpa | apply Kd.zsa)); exact HO151.out⟩, ⟨by (with_reducible repeat (first | refine zga ?_ _ | refine zha ?_ | refine zfa ?_ _)); exact BK148.out⟩, ⟨by repeat (first | (with_reducible first | exact HB.out | apply zda | apply zba | apply zca | refine zea ?_ GE148.out) | exact HB.out)⟩⟩
 case round =>
  clear H'
  try clear c1
  try clear p2
  try clear c3
  try clear hcz6_0
  try clear hcz6_1
  try clear hfz6_0
  try clear hfz6_1
  obtain ⟨x7_1, x16_1, rfl, HA, HK1, HO_7, BK148, HB⟩ := hrel
  cases gk with
  | zero => exact absurd HA.out (by simp [zfb.l0])
  | succ k1 =>
   have H := HA.out
   clear HA
   simp only [zfb.l0] at H
   by_cases c8 : x16_1 < (l1.length : Int)
   · rw [if_pos c8] at H
     have c8b0 : decide (x16_1 < (l1.length : Int)) = true := decide_eq_true c8
     clear c8
     by_cases c9 : 0 ≤ x16_1
     · rw [if_pos c9] at H
       have c9b0 : decide (0 ≤ x16_1) = true := decide_eq_true c9
       clear c9
       by_cases c10 : x16_1 < (l1.length : Int)
       · rw [if_pos c10] at H
         have c10b0 : decide (x16_1 < (l1.length : Int)) = true := decide_eq_true c10
         clear c10
         by_cases c11 : a2 ≥ ((zta l1 x16_1).f2)
         · rw [if_pos c11] at H
           have c11b0 : decide (((zta l1 x16_1).f2) ≤ a2) = true := decide_eq_true c11
           clear c11
           by_cases c12 : 0 ≤ ((zta l1 x16_1).f0)
           · rw [if_pos c12] at H
             have c12b0 : decide (0 ≤ ((zta l1 x16_1).f0)) = true := decide_eq_true c12
             clear c12
             by_cases c13 : ((zta l1 x16_1).f0) < (x7_1.length : Int)
             · rw [if_pos c13] at H
               have c13b0 : decide (((zta l1 x16_1).f0) < (x7_1.length : Int)) = true := decide_eq_true c13
               clear c13
               replace H := Option.bind_eq_some_iff.mp H
               obtain ⟨t155, A140, H⟩ := H
               replace H : (zfb.l0 k1 a2 (x7_1.set (((zta l1 x16_1).f0) : Int).toNat t155) l1 (l1.length : Int) (wrap64 (x16_1 + 1)) a0_0 l0_1) = some r := H
               have A14 := zaa.mk A140
               clear A140
               obtain ⟨y156, hy156⟩ : ∃ y_ : List Int, y_ = (x7_1.set (((zta l1 x16_1).f0) : Int).toNat t155) := ⟨_, rfl⟩
               replace H : (zfb.l0 k1 a2 y156 l1 (l1.length : Int) (wrap64 (x16_1 + 1)) a0_0 l0_1) = some r := by first | (rw [hy156]; with_reducible exact H) | (have H2_ := (Option.bind_some _ _).symm.trans H; rw [hy156]; with_reducible exact H2_) | (have H2_ := (Option.bind_some _ _).symm.trans H; with_reducible exact H2_) | with_reducible exact H | (rw [hy156]; exact H) | exact H
               have Ny156 := zaa.mk hy156
               clear hy156
               have H' := zaa.mk H
               clear H
               have p152 : 0 ≤ (x16_1 : Int) := of_decide_eq_true (by first | (with_reducible assumption) | assumption)
               have q152 : x16_1 < (l1.length : Int) := of_decide_eq_true (by first | (with_reducible assumption) | assumption)
               obtain ⟨ad152, e152, hx152_0, hx152_1, hx152_2⟩ := at_T32 HR1.out x16_1 p152 q152
               cases e152
               replace hx152_0 := (HB.out.cell (World.block_lt_of_cell? w _ hx152_0)).trans hx152_0
               replace hx152_1 := (HB.out.cell (World.block_lt_of_cell? w _ hx152_1)).trans hx152_1
               replace hx152_2 := (HB.out.cell (World.block_lt_of_cell? w _ hx152_2)).trans hx152_2
               replace p152 := eq_true p152
               replace q152 := eq_true q152
               try go_wp2_with (first | ((with_reducible refine zbb (N := 9) rfl ?_); refine zob ?hg (N := 9) ?hd (cs := #[.int .i64 0, .int .i64 0, .int .i64 0]) (t := 32) ?hr ?_; (case hd => rfl); (case hg => rfl); (case hr => first | (go_simp; done) | (go_simp; rfl)); intro gb153 hg w16 hbox hb; replace HO_7 := zaa.mk (Kd.zcb (by (with_reducible repeat (first | apply Kd.zqa | apply Kd.zpa | apply Kd.zsa)); exact HO_7.out) hb); have BK153 := zaa.mk (hbox); have GW153 := zaa.mk ((by rw [hg]; exact (zja (by repeat (first | (with_reducible first | exact HB.out | apply zda | apply zba | apply zca | refine zea ?_ GE148.out) | exact HB.out))) : w.heap.size ≤ gb153)); have GE153 := zaa.mk ((by rw [hg]; exact (zja (by repeat (first | (with_reducible first | exact HB.out | apply zda | apply zba | apply zca | refine zea ?_ GE148.out) | exact HB.out))) : w.heap.size ≤ gb153)); replace HB := zaa.mk (zma (by repeat (first | (with_reducible first | exact HB.out | apply zda | apply zba | apply zca | refine zea ?_ GE148.out) | exact HB.out)) hb); have NB148_153 := zaa.mk ((by rw [hg]; exact Nat.ne_of_lt (zbc (g := gb148) (o := .cells #[.int .i64 a0_0, .slice A0_1 l0_1.length c0_1] 66 (0, 0)) (by (with_reducible repeat (first | refine zga ?_ _ | refine zha ?_ | refine zfa ?_ _)); exact BK148.out)) : gb148 ≠ gb153)); have NB153_148 := zaa.mk ((by rw [hg]; exact Nat.ne_of_gt (zbc (g := gb148) (o := .cells #[.int .i64 a0_0, .slice A0_1 l0_1.length c0_1] 66 (0, 0)) (by (with_reducible repeat (first | refine zga ?_ _ | refine zha ?_ | refine zfa ?_ _)); exact BK148.out)) : gb153 ≠ gb148)); replace BK148 := zaa.mk (zna (g := gb148) (o := .cells #[.int .i64 a0_0, .slice A0_1 l0_1.length c0_1] 66 (0, 0)) (by (with_reducible repeat (first | refine zga ?_ _ | refine zha ?_ | refine zfa ?_ _)); exact BK148.out) hb); clear hb hbox hg; have hnb17 := NB153_148.out; have hnc17 := NB148_153.out; have hcz18_0 : w16.cell? ⟨gb153, 0, none⟩ = some (.int .i64 0) := (zla BK153.out 0).trans rfl; have hcz18_1 : w16.cell? ⟨gb153, 1, none⟩ = some (.int .i64 0) := (zla BK153.out 1).trans rfl; have hcz18_2 : w16.cell? ⟨gb153, 2, none⟩ = some (.int .i64 0) := (zla BK153.out 2).trans rfl; have hfz18_0 := zka BK153.out 0; have hfz18_1 := zka BK153.out 1; have hfz18_2 := zka BK153.out 2))
               have n0_ : zaa (Kd.R (Kd.int .i64) 3 (((w16.setCell ⟨gb153, 0, none⟩ (.int .i64 ((zta l1 x16_1).f0))).setCell ⟨gb153, 1, none⟩ (.int .i64 ((zta l1 x16_1).f1))).setCell ⟨gb153, 2, none⟩ (.int .i64 ((zta l1 x16_1).f2))) w.heap.size (fun _ => True) v150 x7_1) := ⟨by (with_reducible repeat (first | apply Kd.zqa | apply Kd.zpa | apply Kd.zsa)); exact Kd.zsd (Kd.R_far (p := ⟨gb153, 2, none⟩) (Kd.R_far (p := ⟨gb153, 1, none⟩) (Kd.R_far (p := ⟨gb153, 0, none⟩) (Kd.zpc HO_7.out BK153.out (by decide)) (fun _ hk => hk.2) (.int .i64 ((zta l1 x16_1).f0))) (fun _ hk => hk.2) (.int .i64 ((zta l1 x16_1).f1))) (fun _ hk => hk.2) (.int .i64 ((zta l1 x16_1).f2))) (fun _ hk => trivial)⟩
               have n1_ : zaa ((((w16.setCell ⟨gb153, 0, none⟩ (.int .i64 ((zta l1 x16_1).f0))).setCell ⟨gb153, 1, none⟩ (.int .i64 ((zta l1 x16_1).f1))).setCell ⟨gb153, 2, none⟩ (.int .i64 ((zta l1 x16_1).f2))).heap[gb148]? = some (.cells #[.int .i64 a0_0, .slice A0_1 l0_1.length c0_1] 66 (0, 0))) := ⟨by (with_reducible repeat (first | refine zga ?_ _ | refine zha ?_ | refine zfa ?_ _)); refine zsc ?_ NB148_153.out _; (with_reducible repeat (first | refine zga ?_ _ | refine zha ?_ | refine zfa ?_ _)); refine zsc ?_ NB148_153.out _; (with_reducible repeat (first | refine zga ?_ _ | refine zha ?_ | refine zfa ?_ _)); refine zsc ?_ NB148_153.out _; (with_reducible repeat (first | refine zga ?_ _ | refine zha ?_ | refine zfa ?_ _)); exact BK148.out⟩
               have n2_ : zaa ((((w16.setCell ⟨gb153, 0, none⟩ (.int .i64 ((zta l1 x16_1).f0))).setCell ⟨gb153, 1, none⟩ (.int .i64 ((zta l1 x16_1).f1))).setCell ⟨gb153, 2, none⟩ (.int .i64 ((zta l1 x16_1).f2))).heap[gb153]? = some (.cells #[.int .i64 ((zta l1 x16_1).f0), .int .i64 ((zta l1 x16_1).f1), .int .i64 ((zta l1 x16_1).f2)] 32 (0, 0))) := ⟨by (with_reducible repeat (first | refine zga ?_ _ | refine zha ?_ | refine zfa ?_ _)); refine zzc (cs := #[.int .i64 ((zta l1 x16_1).f0), .int .i64 ((zta l1 x16_1).f1), .int .i64 0]) ?_ 2 _ rfl; (with_reducible repeat (first | refine zga ?_ _ | refine zha ?_ | refine zfa ?_ _)); refine zzc (cs := #[.int .i64 ((zta l1 x16_1).f0), .int .i64 0, .int .i64 0]) ?_ 1 _ rfl; (with_reducible repeat (first | refine zga ?_ _ | refine zha ?_ | refine zfa ?_ _)); refine zzc (cs := #[.int .i64 0, .int .i64 0, .int .i64 0]) ?_ 0 _ rfl; (with_reducible repeat (first | refine zga ?_ _ | refine zha ?_ | refine zfa ?_ _)); exact BK153.out⟩
               have n3_ : zaa (Below w.heap.size w (((w16.setCell ⟨gb153, 0, none⟩ (.int .i64 ((zta l1 x16_1).f0))).setCell ⟨gb153, 1, none⟩ (.int .i64 ((zta l1 x16_1).f1))).setCell ⟨gb153, 2, none⟩ (.int .i64 ((zta l1 x16_1).f2)))) := ⟨by repeat (first | (with_reducible first | exact HB.out | apply zda | apply zba | apply zca | refine zea ?_ GE148.out | refine zea ?_ GE153.out) | exact HB.out)⟩
               (try clear HO_7)
               (try clear BK148)
               (try clear BK153)
               (try clear HB)
               generalize (((w16.setCell ⟨gb153, 0, none⟩ (.int .i64 ((zta l1 x16_1).f0))).setCell ⟨gb153, 1, none⟩ (.int .i64 ((zta l1 x16_1).f1))).setCell ⟨gb153, 2, none⟩ (.int .i64 ((zta l1 x16_1).f2))) = w19 at n0_ n1_ n2_ n3_ ⊢
               have HO_7 := n0_
               have BK148 := n1_
               have BK153 := n2_
               have HB := n3_
               clear n0_ n1_ n2_ n3_
               replace HO_7 := zaa.mk (Kd.zsa HO_7.out)
               replace BK148 := zaa.mk (zha BK148.out)
               replace BK153 := zaa.mk (zha BK153.out)
               replace HB := zaa.mk (zca HB.out)
               obtain ⟨Ao21, co21, eo21⟩ := Kd.zfd HO_7.out
               (first | subst eo21 | (injection eo21 with f1_ f2_ f3_; have f4_ := f1_.symm; have f5_ := f3_.symm; clear f1_ f2_ f3_; subst f4_; subst f5_))
               have p154 : 0 ≤ (((zta l1 x16_1).f0) : Int) := of_decide_eq_true (by first | (with_reducible assumption) | assumption)
               have q154 : ((zta l1 x16_1).f0) < (x7_1.length : Int) := of_decide_eq_true (by first | (with_reducible assumption) | assumption)
               obtain ⟨ad154, e154, hx154_0⟩ := Kd.at_int (Kd.zgb HO_7.out).2.2 ((zta l1 x16_1).f0) p154 q154
               cases e154
               replace p154 := eq_true p154
               replace q154 := eq_true q154
               refine start_ (n := 15) (S := fun w' => w'.cell? ⟨gb153, 0, none⟩ = some (.int .i64 ((zta l1 x16_1).f0)) ∧ w'.cell? ⟨gb153, 1, none⟩ = some (.int .i64 ((zta l1 x16_1).f1)) ∧ w'.cell? ⟨gb153, 2, none⟩ = some (.int .i64 ((zta l1 x16_1).f2)) ∧ w'.cell? ⟨gb148, 0, none⟩ = some (.int .i64 a0_0) ∧ w'.cell? ⟨gb148, 1, none⟩ = some (.slice A0_1 l0_1.length c0_1) ∧ w'.cell? (ad154.add (((zta l1 x16_1).f0)).toNat) = some (.int .i64 (rd x7_1 ((zta l1 x16_1).f0)))) (ds := [14]) #[false, false, false, false, false, false, false, false, false, false, false, false, false, false, false] (by kernel_rfl) rfl rfl ⟨(zla BK153.out 0).trans rfl, (zla BK153.out 1).trans rfl, (zla BK153.out 2).trans rfl, (zla BK148.out 0).trans rfl, (zla BK148.out 1).trans rfl, hx154_0⟩ (fun hHeld => ?_); refine with_tabW zfb.tab6 zfb.bits6 (fun HT_ HW_ => ?_)
               generalize w19.drew = w20 at HO_7 BK148 BK153 HB hx154_0 hHeld ⊢
               refine zxc (i := 0) (N := some 24) (v := ?_) (a' := ?_) #[true, false, false, false, false, false, false, false, false, false, false, false, false, false, false] rfl rfl (zyb HT_.out (by kernel_rfl)) (fun _ _ _ h => h) (Or.inl ⟨by rfl, ?_⟩) ?_ ?_
               rotate_left
               · intro w'
                 go_simp
                 with_reducible rfl
               rotate_left
               · simp only [Act.put, List.setIfInBounds_toArray, List.set_cons_zero, List.set_cons_succ, zpb, zzb]
                 rfl
               refine zxc (i := 1) (N := some 25) (v := ?_) (a' := ?_) #[true, true, false, false, false, false, false, false, false, false, false, false, false, false, false] rfl rfl (zyb HT_.out (by kernel_rfl)) (fun _ _ _ h => h) (Or.inl ⟨by rfl, ?_⟩) ?_ ?_
               rotate_left
               · intro w'
                 go_simp
                 with_reducible rfl
               rotate_left
               · simp only [Act.put, List.setIfInBounds_toArray, List.set_cons_zero, List.set_cons_succ, zpb, zzb]
                 rfl
               refine zxc (i := 4) (N := some 28) (v := ?_) (a' := ?_) #[true, true, false, false, true, false, false, false, false, false, false, false, false, false, false] rfl rfl (zyb HT_.out (by kernel_rfl)) (fun _ _ _ h => h) (Or.inl ⟨by rfl, ?_⟩) ?_ ?_
               rotate_left
               · intro w'
                 go_simp
                 with_reducible rfl
               rotate_left
               · simp only [Act.put, List.setIfInBounds_toArray, List.set_cons_zero, List.set_cons_succ, zpb, zzb]
                 rfl
               refine zxc (i := 5) (N := some 29) (v := ?_) (a' := ?_) #[true, true, false, false, true, true, false, false, false, false, false, false, false, false, false] rfl rfl (zyb HT_.out (by kernel_rfl)) (fun _ _ _ h => h) (Or.inl ⟨by rfl, ?_⟩) ?_ ?_
               rotate_left
               · intro w'
                 go_simp
                 with_reducible rfl
               rotate_left
               · simp only [Act.put, List.setIfInBounds_toArray, List.set_cons_zero, List.set_cons_succ, zpb, zzb]
                 rfl
               refine zxc (i := 9) (N := some 33) (v := ?_) (a' := ?_) #[true, true, false, false, true, true, false, false, false, true, false, false, false, false, false] rfl rfl (zyb HT_.out (by kernel_rfl)) (fun _ _ _ h => h) (Or.inl ⟨by rfl, ?_⟩) ?_ ?_
               rotate_left
               · intro w'
                 go_simp
                 with_reducible rfl
               rotate_left
               · simp only [Act.put, List.setIfInBounds_toArray, List.set_cons_zero, List.set_cons_succ, zpb, zzb]
                 rfl
               refine zxc (i := 11) (N := some 35) (v := ?_) (a' := ?_) #[true, true, false, false, true, true, false, false, false, true, false, true, false, false, false] rfl rfl (zyb HT_.out (by kernel_rfl)) (fun _ _ _ h => h) (Or.inl ⟨by rfl, ?_⟩) ?_ ?_
               rotate_left
               · intro w'
                 go_simp
                 with_reducible rfl
               rotate_left
               · simp only [Act.put, List.setIfInBounds_toArray, List.set_cons_zero, List.set_cons_succ, zpb, zzb]
                 rfl
               refine take_ (i := 2) (N := some 26) (v := ?_) (a' := ?_) #[true, true, true, false, true, true, false, false, false, true, false, true, false, false, false] rfl rfl (zge HT_.out HW_.out (by kernel_rfl)) (fun _ _ _ h => h) (Or.inl ⟨by rfl, ?_⟩) hHeld ?_ ?_
               rotate_left
               · rintro w' ⟨s0, s1, s2, s3, s4, s5⟩
                 go_simp
                 with_reducible rfl
               rotate_left
               · simp only [Act.put, List.setIfInBounds_toArray, List.set_cons_zero, List.set_cons_succ, zpb, zzb]
                 rfl
               refine take_ (i := 3) (N := some 27) (v := ?_) (a' := ?_) #[true, true, true, true, true, true, false, false, false, true, false, true, false, false, false] rfl rfl (zge HT_.out HW_.out (by kernel_rfl)) (fun _ _ _ h => h) (Or.inl ⟨by rfl, ?_⟩) hHeld ?_ ?_
               rotate_left
               · rintro w' ⟨s0, s1, s2, s3, s4, s5⟩
                 go_simp
                 with_reducible rfl
               rotate_left
               · simp only [Act.put, List.setIfInBounds_toArray, List.set_cons_zero, List.set_cons_succ, zpb, zzb]
                 rfl
               refine take_ (i := 6) (N := some 30) (v := ?_) (a' := ?_) #[true, true, true, true, true, true, true, false, false, true, false, true, false, false, false] rfl rfl (zge HT_.out HW_.out (by kernel_rfl)) (fun _ _ _ h => h) (Or.inl ⟨by rfl, ?_⟩) hHeld ?_ ?_
               rotate_left
               · rintro w' ⟨s0, s1, s2, s3, s4, s5⟩
                 go_simp
                 with_reducible rfl
               rotate_left
               · simp only [Act.put, List.setIfInBounds_toArray, List.set_cons_zero, List.set_cons_succ, zpb, zzb]
                 rfl
               refine zxc (i := 7) (N := some 31) (v := ?_) (a' := ?_) #[true, true, true, true, true, true, true, true, false, true, false, true, false, false, false] rfl rfl (zyb HT_.out (by kernel_rfl)) (fun _ _ _ h => h) (Or.inl ⟨by rfl, ?_⟩) ?_ ?_
               rotate_left
               · intro w'
                 go_simp
                 with_reducible rfl
               rotate_left
               · simp only [Act.put, List.setIfInBounds_toArray, List.set_cons_zero, List.set_cons_succ, zpb, zzb]
                 rfl
               refine take_ (i := 8) (N := some 32) (v := ?_) (a' := ?_) #[true, true, true, true, true, true, true, true, true, true, false, true, false, false, false] rfl rfl (zge HT_.out HW_.out (by kernel_rfl)) (fun _ _ _ h => h) (Or.inl ⟨by rfl, ?_⟩) hHeld ?_ ?_
               rotate_left
               · rintro w' ⟨s0, s1, s2, s3, s4, s5⟩
                 go_simp
                 with_reducible rfl
               rotate_left
               · simp only [Act.put, List.setIfInBounds_toArray, List.set_cons_zero, List.set_cons_succ, zpb, zzb]
                 rfl
               refine take_ (i := 10) (N := some 34) (v := ?_) (a' := ?_) #[true, true, true, true, true, true, true, true, true, true, true, true, false, false, false] rfl rfl (zge HT_.out HW_.out (by kernel_rfl)) (fun _ _ _ h => h) (Or.inl ⟨by rfl, ?_⟩) hHeld ?_ ?_
               rotate_left
               · rintro w' ⟨s0, s1, s2, s3, s4, s5⟩
                 go_simp
                 with_reducible rfl
               rotate_left
               · simp only [Act.put, List.setIfInBounds_toArray, List.set_cons_zero, List.set_cons_succ, zpb, zzb]
                 rfl
               refine one_ (i := 12) (N := some 36) #[true, true, true, true, true, true, true, true, true, true, true, true, true, false, false] rfl rfl (one_of HT_.out (by kernel_rfl)) (by decide) (fun K hK => ?_)
               refine goes_ Tryz.func36 (by kernel_rfl) rfl #[.agg #[.int .i64 a0_0, .slice A0_1 l0_1.length c0_1], .int .i64 (rd x7_1 ((zta l1 x16_1).f0)), .int .i64 ((zta l1 x16_1).f1), .int .i64 a2] (by rfl) rfl rfl (by (try simp only [List.map_toArray, List.map_cons, List.map_nil]); first | done | rfl | (simp only [List.length_drop, List.length_take]; rfl)) ?_
               with_reducible refine (glue_plan_gives.calls a0_0 _ _ l0_1 (rd x7_1 ((zta l1 x16_1).f0)) ((zta l1 x16_1).f1) a2 t155 _ ?side1 ?side2 A14.out).mono ?_
               (case side1 => repeat (first | exact (Kd.zkc HR0_1.out HB.out) | (with_reducible refine Kd.zrb ?_ _) | (with_reducible refine Kd.zqb ?_ _) | (with_reducible refine Kd.zmc ?_)))
               (case side2 => exact HC0_1.out)
               rintro e w22 ⟨rfl, hb⟩
               have HS5_ := (hb.cell (World.block_lt_of_cell? _ _ (hHeld.2.2.2.2.2))).trans (hHeld.2.2.2.2.2)
               refine ⟨_, rfl, ?_⟩
               replace HO_7 := zaa.mk (Kd.zcb (by (with_reducible repeat (first | apply Kd.zqa | apply Kd.zpa | apply Kd.zsa)); exact HO_7.out) hb)
               replace BK148 := zaa.mk (zna (g := gb148) (o := .cells #[.int .i64 a0_0, .slice A0_1 l0_1.length c0_1] 66 (0, 0)) (by (with_reducible repeat (first | refine zga ?_ _ | refine zha ?_ | refine zfa ?_ _)); exact BK148.out) hb)
               replace BK153 := zaa.mk (zna (g := gb153) (o := .cells #[.int .i64 ((zta l1 x16_1).f0), .int .i64 ((zta l1 x16_1).f1), .int .i64 ((zta l1 x16_1).f2)] 32 (0, 0)) (by (with_reducible repeat (first | refine zga ?_ _ | refine zha ?_ | refine zfa ?_ _)); exact BK153.out) hb)
               replace HB := zaa.mk (zma (by repeat (first | (with_reducible first | exact HB.out | apply zda | apply zba | apply zca | refine zea ?_ GE148.out | refine zea ?_ GE153.out) | exact HB.out)) hb)
               (try clear hb)
               (try clear hb2)
               (try clear hk)
               (try clear hi)
               have p15 : 0 ≤ (((zta l1 x16_1).f0) : Int) := of_decide_eq_true (by first | (with_reducible assumption) | assumption)
               have q15 : (((zta l1 x16_1).f0) : Int) < ((x7_1.length : Int) : Int) := of_decide_eq_true (by first | (with_reducible assumption) | assumption)
               obtain ⟨go15, co15, eo15, gb15, gl15, cl15, HG15⟩ := Kd.R_form HO_7.out (by omega)
               (first | cases eo15 | (injection eo15 with ea_ en_ ec_; (first | subst ea_ | (injection ea_ with ea_; subst ea_)); subst ec_; clear en_))
               have GB15 := zaa.mk gb15
               have GG15 := zaa.mk HG15
               clear gb15 gl15 HG15
               (first | simp only [add_plain] at hx154_0 | skip)
               obtain ⟨hx15_0, hf15_0⟩ := Kd.R_celln 0 HO_7.out (((zta l1 x16_1).f0) : Int) p15 q15
               replace p15 := eq_true p15
               replace q15 := eq_true q15
               have HP23 := Kd.R_putn HO_7.out (((zta l1 x16_1).f0) : Int) t155
               rw [← Ny156.out] at HP23
               have HQ23 := zaa.mk HP23
               clear HP23
               refine hK.out _ _ ⟨(zla BK153.out 0).trans rfl, (zla BK153.out 1).trans rfl, (zla BK153.out 2).trans rfl, (zla BK148.out 0).trans rfl, (zla BK148.out 1).trans rfl, HS5_⟩ (fun hHeld => ?_)
               clear hK K
               refine norm_ (a' := ?_) ?_ ?_
               rotate_left
               · show Act.put _ (some 36) _ = _
                 simp only [Act.put, List.setIfInBounds_toArray, List.set_cons_zero, List.set_cons_succ, zpb, zzb]
                 rfl
               refine zxc (i := 13) (N := some 37) (v := ?_) (a' := ?_) #[true, true, true, true, true, true, true, true, true, true, true, true, true, true, false] rfl rfl (zyb HT_.out (by kernel_rfl)) (fun _ _ _ h => h) (Or.inl ⟨by rfl, ?_⟩) ?_ ?_
               rotate_left
               · intro w'
                 go_simp
                 with_reducible rfl
               rotate_left
               · simp only [Act.put, List.setIfInBounds_toArray, List.set_cons_zero, List.set_cons_succ, zpb, zzb]
                 rfl
               refine last_ (i := 14) (N := none) #[true, true, true, true, true, true, true, true, true, true, true, true, true, true, true] rfl rfl (one_of HT_.out (by kernel_rfl)) (by decide) (fun K hK => ?_)
               refine skip_ (w1 := ?_) (by rfl) rfl ?_ ?_
               rotate_left
               · go_simp
                 rfl
               refine hK.out _ _ ?_
               clear hK K
               refine done_ (done_of HT_.out (by kernel_rfl)) ?_
               try go_wp2
               go_roundg k1
               case measure => have := HK1.out; omega
               case rel => exact ⟨(y156), (wrap64 (x16_1 + 1)), (by first | rfl | (simp; done) | (simp [*]; done)), H', ⟨by have := HK1.out; omega⟩, ⟨by (with_reducible repeat (first | apply Kd.zqa | apply Kd.zpa | apply Kd.zsa)); exact HQ23.out⟩, ⟨by (with_reducible repeat (first | refine zga ?_ _ | refine zha ?_ | refine zfa ?_ _)); refine zsc ?_ (by have h_ := Kd.R_ne HO_7.out BK148.out (by decide); intro e_; exact h_ (by rw [e_]; rfl)) _; (with_reducible repeat (first | refine zga ?_ _ | refine zha ?_ | refine zfa ?_ _)); exact BK148.out⟩, ⟨by repeat (first | (with_reducible first | exact HB.out | apply zda | apply zba | apply zca | refine zea ?_ GB15.out | refine zea ?_ GE148.out | refine zea ?_ GE153.out) | exact HB.out)⟩⟩
             · rw [if_neg c13] at H
               exact absurd H (by simp)
           · rw [if_neg c12] at H
             exact absurd H (by simp)
         · rw [if_neg c11] at H
           have c11b0 : decide (((zta l1 x16_1).f2) ≤ a2) = false := decide_eq_false c11
           clear c11
           have H' := zaa.mk H
           clear H
           have p152 : 0 ≤ (x16_1 : Int) := of_decide_eq_true (by first | (with_reducible assumption) | assumption)
           have q152 : x16_1 < (l1.length : Int) := of_decide_eq_true (by first | (with_reducible assumption) | assumption)
           obtain ⟨ad152, e152, hx152_0, hx152_1, hx152_2⟩ := at_T32 HR1.out x16_1 p152 q152
           cases e152
           replace hx152_0 := (HB.out.cell (World.block_lt_of_cell? w _ hx152_0)).trans hx152_0
           replace hx152_1 := (HB.out.cell (World.block_lt_of_cell? w _ hx152_1)).trans hx152_1
           replace hx152_2 := (HB.out.cell (World.block_lt_of_cell? w _ hx152_2)).trans hx152_2
           replace p152 := eq_true p152
           replace q152 := eq_true q152
           go_wp2_with (first | ((with_reducible refine zbb (N := 9) rfl ?_); refine zob ?hg (N := 9) ?hd (cs := #[.int .i64 0, .int .i64 0, .int .i64 0]) (t := 32) ?hr ?_; (case hd => rfl); (case hg => rfl); (case hr => first | (go_simp; done) | (go_simp; rfl)); intro gb153 hg w24 hbox hb; replace HO_7 := zaa.mk (Kd.zcb (by (with_reducible repeat (first | apply Kd.zqa | apply Kd.zpa | apply Kd.zsa)); exact HO_7.out) hb); have BK153 := zaa.mk (hbox); have GW153 := zaa.mk ((by rw [hg]; exact (zja (by repeat (first | (with_reducible first | exact HB.out | apply zda | apply zba | apply zca | refine zea ?_ GE148.out) | exact HB.out))) : w.heap.size ≤ gb153)); have GE153 := zaa.mk ((by rw [hg]; exact (zja (by repeat (first | (with_reducible first | exact HB.out | apply zda | apply zba | apply zca | refine zea ?_ GE148.out) | exact HB.out))) : w.heap.size ≤ gb153)); replace HB := zaa.mk (zma (by repeat (first | (with_reducible first | exact HB.out | apply zda | apply zba | apply zca | refine zea ?_ GE148.out) | exact HB.out)) hb); have NB148_153 := zaa.mk ((by rw [hg]; exact Nat.ne_of_lt (zbc (g := gb148) (o := .cells #[.int .i64 a0_0, .slice A0_1 l0_1.length c0_1] 66 (0, 0)) (by (with_reducible repeat (first | refine zga ?_ _ | refine zha ?_ | refine zfa ?_ _)); exact BK148.out)) : gb148 ≠ gb153)); have NB153_148 := zaa.mk ((by rw [hg]; exact Nat.ne_of_gt (zbc (g := gb148) (o := .cells #[.int .i64 a0_0, .slice A0_1 l0_1.length c0_1] 66 (0, 0)) (by (with_reducible repeat (first | refine zga ?_ _ | refine zha ?_ | refine zfa ?_ _)); exact BK148.out)) : gb153 ≠ gb148)); replace BK148 := zaa.mk (zna (g := gb148) (o := .cells #[.int .i64 a0_0, .slice A0_1 l0_1.length c0_1] 66 (0, 0)) (by (with_reducible repeat (first | refine zga ?_ _ | refine zha ?_ | refine zfa ?_ _)); exact BK148.out) hb); clear hb hbox hg; have hnb25 := NB153_148.out; have hnc25 := NB148_153.out; have hcz26_0 : w24.cell? ⟨gb153, 0, none⟩ = some (.int .i64 0) := (zla BK153.out 0).trans rfl; have hcz26_1 : w24.cell? ⟨gb153, 1, none⟩ = some (.int .i64 0) := (zla BK153.out 1).trans rfl; have hcz26_2 : w24.cell? ⟨gb153, 2, none⟩ = some (.int .i64 0) := (zla BK153.out 2).trans rfl; have hfz26_0 := zka BK153.out 0; have hfz26_1 := zka BK153.out 1; have hfz26_2 := zka BK153.out 2))
           go_roundg k1
           case measure => have := HK1.out; omega
           case rel => exact ⟨(x7_1), (wrap64 (x16_1 + 1)), (by first | rfl | (simp; done) | (simp [*]; done)), H', ⟨by have := HK1.out; omega⟩, ⟨by (with_reducible repeat (first | apply Kd.zqa | apply Kd.zpa | apply Kd.zsa)); exact Kd.zsd (Kd.R_far (p := ⟨gb153, 2, none⟩) (Kd.R_far (p := ⟨gb153, 1, none⟩) (Kd.R_far (p := ⟨gb153, 0, none⟩) (Kd.zpc HO_7.out BK153.out (by decide)) (fun _ hk => hk.2) (.int .i64 ((zta l1 x16_1).f0))) (fun _ hk => hk.2) (.int .i64 ((zta l1 x16_1).f1))) (fun _ hk => hk.2) (.int .i64 ((zta l1 x16_1).f2))) (fun _ hk => trivial)⟩, ⟨by (with_reducible repeat (first | refine zga ?_ _ | refine zha ?_ | refine zfa ?_ _)); refine zsc ?_ NB148_153.out _; (with_reducible repeat (first | refine zga ?_ _ | refine zha ?_ | refine zfa ?_ _)); refine zsc ?_ NB148_153.out _; (with_reducible repeat (first | refine zga ?_ _ | refine zha ?_ | refine zfa ?_ _)); refine zsc ?_ NB148_153.out _; (with_reducible repeat (first | refine zga ?_ _ | refine zha ?_ | refine zfa ?_ _)); exact BK148.out⟩, ⟨by repeat (first | (with_reducible first | exact HB.out | apply zda | apply zba | apply zca | refine zea ?_ GE148.out | refine zea ?_ GE153.out) | exact HB.out)⟩⟩
       · rw [if_neg c10] at H
         exact absurd H (by simp)
     · rw [if_neg c9] at H
       exact absurd H (by simp)
   · rw [if_neg c8] at H
     have c8b0 : decide (x16_1 < (l1.length : Int)) = false := decide_eq_false c8
     clear c8
     obtain rfl := Option.some.inj H
     go_wp2
     go_ret
     exact ⟨_, by first | rfl | (simp [zwa, zva] <;> rfl) | (simp [*, zwa, zva] <;> rfl), by (with_reducible repeat (first | apply Kd.zqa | apply Kd.zpa | apply Kd.zsa)); exact HO_7.out, by repeat (first | (with_reducible first | exact HB.out | apply zda | apply zba | apply zca | refine zea ?_ GE148.out) | exact HB.out)⟩
end Go.Proofs.YtoacbkoenkiahaaGreat.PTopGluePlate
end
section
namespace Go.Proofs.YtoacbkoenkiahaaGreat.PTopGluePlate
open Go.RowKit Go.Proofs.YtoacbkoenkiahaaGreatW.PrintWords Go.Proofs.YtoacbkoenkiahaaGreatW.PrintLast Go.Proofs.YtoacbkoenkiahaaGreatW.PrintMore
attribute [local go_sem] znb zlb zhc zgc zeb zdb zmb zkb
set_option linter.unusedVariables false
set_option linter.unusedSimpArgs false
def zhe.f (k : Nat) (a0_0 : Int) (l0_1 : List Int) (l1 : List (S32)) (a2 : Int) : Option (List Int × Int) := (zqd.f k a0_0 l0_1 (([l1] : List (List (S32))))).bind fun bt161 => (if bt161.2.2 = 0 then ((zzd.f (([a2] : List Int))).bind fun t170 => (if t170 = true then ((zfb.f k bt161.1 bt161.2.1 l1 a2).bind fun t171 => (some (t171, 0))) else (none))) else (none))
set_option maxHeartbeats 8000000 in
set_option maxRecDepth 100000 in
theorem zhe.calls (k : Nat) (a0_0 : Int) (P0_1_ : Nat → Prop) (A0_1 : Option Addr) (c0_1 : Nat) (l0_1 : List Int) (P1_ : Nat → Prop) (A1 : Option Addr) (c1 : Nat) (l1 : List (S32)) (a2 : Int) (r1 : List Int) (r2 : Int) (w : World) (hs0_1 : Kd.V (Kd.int .i64) 3 w w.heap.size (fun k_ => P0_1_ k_) (.slice A0_1 l0_1.length c0_1) l0_1) (hs1 : Kd.V k32 32 w w.heap.size (fun k_ => P1_ k_) (.slice A1 l1.length c1) l1) (h : zhe.f k a0_0 l0_1 l1 a2 = some (r1, r2)) :
 Calls Tryz.prog 6 #[.agg #[.int .i64 a0_0, .slice A0_1 l0_1.length c0_1], .slice A1 l1.length c1, .int .i64 a2] w fun e w' => ∃ v0_ : Value, e = .returned (.tuple #[v0_, .int .i64 r2]) ∧ Kd.R (Kd.int .i64) 3 w' w.heap.size (fun k_ => (w.heap.size ≤ k_)) v0_ r1 ∧ Below w.heap.size w w' := by
 have hu29 := Tryz.underlying29
 have hu66 := Tryz.underlying66
 have HO0_1 := zaa.mk (show Kd.V (Kd.int .i64) 3 w w.heap.size (fun k_ => ((P0_1_ k_ ∨ P1_ k_) ∨ w.heap.size ≤ k_)) (.slice A0_1 l0_1.length c0_1) l0_1 from Kd.zcc hs0_1 (fun k_ hk => .inl (.inl hk)))
 have HO1 := zaa.mk (show Kd.V k32 32 w w.heap.size (fun k_ => ((P0_1_ k_ ∨ P1_ k_) ∨ w.heap.size ≤ k_)) (.slice A1 l1.length c1) l1 from Kd.zcc hs1 (fun k_ hk => .inl (.inr hk)))
 have HB := zaa.mk (Below.refl w.heap.size w)
 have H : ((zqd.f k a0_0 l0_1 (([l1] : List (List (S32))))).bind fun bt161 => (if bt161.2.2 = 0 then ((zzd.f (([a2] : List Int))).bind fun t170 => (if t170 = true then ((zfb.f k bt161.1 bt161.2.1 l1 a2).bind fun t171 => (some (t171, 0))) else (none))) else (none))) = some (r1, r2) := h
 clear h
 obtain ⟨y158, hy158⟩ : ∃ y_ : List (List (S32)), y_ = (([l1] : List (List (S32)))) := ⟨_, rfl⟩
 replace H : ((zqd.f k a0_0 l0_1 y158).bind fun bt161 => (if bt161.2.2 = 0 then ((zzd.f (([a2] : List Int))).bind fun t170 => (if t170 = true then ((zfb.f k bt161.1 bt161.2.1 l1 a2).bind fun t171 => (some (t171, 0))) else (none))) else (none))) = some (r1, r2) := by first | (rw [hy158]; with_reducible exact H) | (have H2_ := (Option.bind_some _ _).symm.trans H; rw [hy158]; with_reducible exact H2_) | (have H2_ := (Option.bind_some _ _).symm.trans H; with_reducible exact H2_) | with_reducible exact H | (rw [hy158]; exact H) | exact H
 have Ny158 := zaa.mk hy158
 clear hy158
 replace H := Option.bind_eq_some_iff.mp H
 obtain ⟨⟨t161, t162, t165⟩, A40, H⟩ := H
 replace H : (if t165 = 0 then ((zzd.f (([a2] : List Int))).bind fun t170 => (if t170 = true then ((zfb.f k t161 t162 l1 a2).bind fun t171 => (some (t171, 0))) else (none))) else (none)) = some (r1, r2) := H
 have A4 := zaa.mk A40
 clear A40
 by_cases c5 : t165 = 0
 · rw [if_pos c5] at H
   have c5b0 : (t165 == 0) = true := beq_iff_eq.mpr c5
   have c5b1 : (t165 != 0) = false := bne_eq_false_iff_eq.mpr c5
   clear c5
   obtain ⟨y167, hy167⟩ : ∃ y_ : List Int, y_ = (([a2] : List Int)) := ⟨_, rfl⟩
   replace H : ((zzd.f y167).bind fun t170 => (if t170 = true then ((zfb.f k t161 t162 l1 a2).bind fun t171 => (some (t171, 0))) else (none))) = some (r1, r2) := by first | (rw [hy167]; with_reducible exact H) | (have H2_ := (Option.bind_some _ _).symm.trans H; rw [hy167]; with_reducible exact H2_) | (have H2_ := (Option.bind_some _ _).symm.trans H; with_reducible exact H2_) | with_reducible exact H | (rw [hy167]; exact H) | exact H
   have Ny167 := zaa.mk hy167
   clear hy167
   replace H := Option.bind_eq_some_iff.mp H
   obtain ⟨t170, A60, H⟩ := H
   replace H : (if t170 = true then ((zfb.f k t161 t162 l1 a2).bind fun t171 => (some (t171, 0))) else (none)) = some (r1, r2) := H
   have A6 := zaa.mk A60
   clear A60
   by_cases c7 : t170 = true
   · subst c7
     have H1 : ((zfb.f k t161 t162 l1 a2).bind fun t171 => (some (t171, 0))) = some (r1, r2) := by rw [if_pos rfl] at H; exact H
     clear H
     have H := H1
     clear H1
     replace H := Option.bind_eq_some_iff.mp H
     obtain ⟨t171, A80, H⟩ := H
     replace H : (some (t171, 0)) = some (r1, r2) := H
     have A8 := zaa.mk A80
     clear A80
     simp only [Option.some.injEq, Prod.mk.injEq] at H
     obtain ⟨rfl, rfl⟩ := H
     go_enter Tryz.func6, Tryz.ntmps6
     go_wp2_with (first | ((with_reducible refine zbb (N := 3) rfl ?_); refine zob ?hg (N := 3) ?hd (cs := #[.int .i64 a0_0, .slice A0_1 l0_1.length c0_1]) (t := 29) ?hr ?_; (case hd => rfl); (case hg => rfl); (case hr => first | (go_simp; done) | (go_simp; rfl)); intro gb157 hg w9 hbox hb; replace HO0_1 := zaa.mk (Kd.zqc (Kd.zld (by (with_reducible repeat (first | apply Kd.zza | apply Kd.zya | apply Kd.zib)); exact HO0_1.out) gb157 (Nat.le_of_eq hg.symm)) hb); replace HO1 := zaa.mk (Kd.zqc (Kd.zld (by (with_reducible repeat (first | apply Kd.zza | apply Kd.zya | apply Kd.zib)); exact HO1.out) gb157 (Nat.le_of_eq hg.symm)) hb); have BK157 := zaa.mk (hbox); have GW157 := zaa.mk ((by rw [hg]; exact (zja (by repeat (first | (with_reducible first | exact HB.out | apply zda | apply zba | apply zca) | exact HB.out))) : w.heap.size ≤ gb157)); have GE157 := zaa.mk ((by rw [hg]; exact (zja (by repeat (first | (with_reducible first | exact HB.out | apply zda | apply zba | apply zca) | exact HB.out))) : w.heap.size ≤ gb157)); replace HB := zaa.mk (zma (by repeat (first | (with_reducible first | exact HB.out | apply zda | apply zba | apply zca) | exact HB.out)) hb); clear hb hbox hg; have hcz10_0 : w9.cell? ⟨gb157, 0, none⟩ = some (.int .i64 a0_0) := (zla BK157.out 0).trans rfl; have hcz10_1 : w9.cell? ⟨gb157, 1, none⟩ = some (.slice A0_1 l0_1.length c0_1) := (zla BK157.out 1).trans rfl; have hfz10_0 := zka BK157.out 0; have hfz10_1 := zka BK157.out 1) | ((with_reducible refine zbb (N := 13) rfl ?_); refine Kd.N_lit (Kd.slice 32 k32) _ 33 ?hg (N' := 13) ?hd (xs := ([l1] : List (List (S32)))) (inner := [.slice A1 l1.length c1]) (ok := (fun k_ => ((P0_1_ k_ ∨ P1_ k_) ∨ w.heap.size ≤ k_) ∧ k_ ≠ gb157)) (okp := (fun k_ => ((P0_1_ k_ ∨ P1_ k_) ∨ w.heap.size ≤ k_) ∧ k_ ≠ gb157)) ?hr ?hp (fun _ hk => hk) ((show ∀ k_, w9.heap.size ≤ k_ → (fun k_ => ((P0_1_ k_ ∨ P1_ k_) ∨ w.heap.size ≤ k_) ∧ k_ ≠ gb157) k_ from fun k_ hk => ⟨(.inr (Nat.le_trans (zja (by repeat (first | (with_reducible first | exact HB.out | apply zda | apply zba | apply zca | refine zea ?_ GE157.out) | exact HB.out))) hk)), Kd.freshB (g := gb157) (o := .cells #[.int .i64 a0_0, .slice A0_1 l0_1.length c0_1] 29 (0, 0)) (by (with_reducible repeat (first | refine zga ?_ _ | refine zha ?_ | refine zfa ?_ _)); exact BK157.out) k_ hk⟩) _ (Nat.le_refl _)) (Below.refl _ _) (Nat.le_refl _) (by simp) ?_; (case hd => rfl); (case hg => rfl); (case hr => first | (go_simp; done) | (go_simp; rfl)); (case hp => exact (Reps.one (show Kd.FK (Kd.slice 32 k32) _ _ l1 [.slice A1 l1.length c1] from (Kd.FK_slice_mk (Kd.zwd (Kd.zcc (ok' := (fun k_ => ((P0_1_ k_ ∨ P1_ k_) ∨ w.heap.size ≤ k_) ∧ k_ ≠ gb157)) (HO1.out) (fun k_ hk => ⟨hk.1, hk.2⟩))).2.1 (Kd.V_F (Kd.zcc (ok' := (fun k_ => ((P0_1_ k_ ∨ P1_ k_) ∨ w.heap.size ≤ k_) ∧ k_ ≠ gb157)) (HO1.out) (fun k_ hk => ⟨hk.1, hk.2⟩))))) (Reps.none _ _))); intro v159 w11 ho12 hb hg_ hnew_; clear hg_ hnew_; (first | rw [← Ny158.out] at ho12 | (simp only [Int.reduceToNat] at ho12; rw [← Ny158.out] at ho12)); replace HO0_1 := zaa.mk (Kd.V_elder' (by (with_reducible repeat (first | apply Kd.zza | apply Kd.zya | apply Kd.zib)); exact HO0_1.out) (Kd.N_base ho12) hb); replace HO1 := zaa.mk (Kd.V_elder' (by (with_reducible repeat (first | apply Kd.zza | apply Kd.zya | apply Kd.zib)); exact HO1.out) (Kd.N_base ho12) hb); have HO160 := zaa.mk (Kd.N_lower ho12 (zja (by repeat (first | (with_reducible first | exact HB.out | apply zda | apply zba | apply zca | refine zea ?_ GE157.out) | exact HB.out)))); replace BK157 := zaa.mk (zna (g := gb157) (o := .cells #[.int .i64 a0_0, .slice A0_1 l0_1.length c0_1] 29 (0, 0)) (by (with_reducible repeat (first | refine zga ?_ _ | refine zha ?_ | refine zfa ?_ _)); exact BK157.out) hb); replace HB := zaa.mk (zma (by repeat (first | (with_reducible first | exact HB.out | apply zda | apply zba | apply zca | refine zea ?_ GE157.out) | exact HB.out)) hb); clear hb ho12; obtain ⟨Ao13, co13, eo13⟩ := Kd.N_slice HO160.out; subst eo13) | ((with_reducible refine zxa (f := 15) rfl ?_); refine zhd (some 14) rfl rfl Tryz.func15 (by kernel_rfl) rfl #[.agg #[.int .i64 a0_0, .slice A0_1 l0_1.length c0_1], .slice Ao13 y158.length co13] rfl (by (try simp only [List.map_toArray, List.map_cons, List.map_nil]); first | done | rfl | (simp only [List.length_drop, List.length_take]; rfl)) ?_; (with_reducible refine (zqd.calls k a0_0 (fun k_ => ((((P0_1_ k_ ∨ P1_ k_) ∨ w.heap.size ≤ k_) ∧ k_ ≠ gb157) ∧ some k_ ≠ (.slice Ao13 y158.length co13 : Value).ownBlock)) _ _ l0_1 _ _ y158 t161 t162 t165 _ ?side1 ?side2 ?side3 A4.out).mono ?_); (case side1 => exact HO0_1.out); (case side2 => repeat (first | exact (Kd.N_reads' HO160.out).2.2 | (with_reducible refine Kd.zrb ?_ _) | (with_reducible refine Kd.zqb ?_ _) | (with_reducible refine Kd.zmc ?_))); (case side3 => exact (Kd.N_reads' HO160.out).2.1); rintro e w14 ⟨v163, rfl, ho0, hb⟩; refine ⟨_, rfl, ?_⟩; replace HO0_1 := zaa.mk (Kd.zqc (by (with_reducible repeat (first | apply Kd.zza | apply Kd.zya | apply Kd.zib)); exact HO0_1.out) hb); replace HO1 := zaa.mk (Kd.zqc (by (with_reducible repeat (first | apply Kd.zza | apply Kd.zya | apply Kd.zib)); exact HO1.out) hb); have HO164 := zaa.mk (Kd.V_lower (Kd.zcc (ok' := fun k_ => ((P0_1_ k_ ∨ P1_ k_) ∨ w.heap.size ≤ k_) ∧ some k_ ≠ (.slice Ao13 y158.length co13 : Value).ownBlock ∧ k_ ≠ gb157) ho0 (fun k_ hk_ => ⟨Or.elim hk_ (fun hs_ => hs_.1.1) (fun hn_ => (.inr (Nat.le_trans (zja (by repeat (first | (with_reducible first | exact HB.out | apply zda | apply zba | apply zca | refine zea ?_ GE157.out) | exact HB.out))) hn_))), Or.elim hk_ (fun hs_ => hs_.2) (fun hn_ => (Kd.fresh' (Kd.N_lt (by (with_reducible repeat (first | apply Kd.N_alloc | apply Kd.N_drewN | apply Kd.N_drew)); exact HO160.out)) k_ hn_)), Or.elim hk_ (fun hs_ => hs_.1.2) (fun hn_ => (Kd.freshB (g := gb157) (o := .cells #[.int .i64 a0_0, .slice A0_1 l0_1.length c0_1] 29 (0, 0)) (by (with_reducible repeat (first | refine zga ?_ _ | refine zha ?_ | refine zfa ?_ _)); exact BK157.out) k_ hn_))⟩)) (zja (by repeat (first | (with_reducible first | exact HB.out | apply zda | apply zba | apply zca | refine zea ?_ GE157.out) | exact HB.out)))); replace HO160 := zaa.mk (Kd.N_below (by (with_reducible repeat (first | apply Kd.N_alloc | apply Kd.N_drewN | apply Kd.N_drew)); exact HO160.out) hb); replace BK157 := zaa.mk (zna (g := gb157) (o := .cells #[.int .i64 a0_0, .slice A0_1 l0_1.length c0_1] 29 (0, 0)) (by (with_reducible repeat (first | refine zga ?_ _ | refine zha ?_ | refine zfa ?_ _)); exact BK157.out) hb); replace HB := zaa.mk (zma (by repeat (first | (with_reducible first | exact HB.out | apply zda | apply zba | apply zca | refine zea ?_ GE157.out) | exact HB.out)) hb); (try clear hb); (try clear hb2); (try clear hk); (try clear hi); (try clear ho0)) | ((with_reducible refine zbb (N := 8) rfl ?_); refine zob ?hg (N := 8) ?hd (cs := #[.int .i64 0, .slice none 0 0]) (t := 66) ?hr ?_; (case hd => rfl); (case hg => rfl); (case hr => first | (go_simp; done) | (go_simp; rfl)); intro gb166 hg w15 hbox hb; replace HO0_1 := zaa.mk (Kd.zqc (Kd.zld (by (with_reducible repeat (first | apply Kd.zza | apply Kd.zya | apply Kd.zib)); exact HO0_1.out) gb166 (Nat.le_of_eq hg.symm)) hb); replace HO1 := zaa.mk (Kd.zqc (Kd.zld (by (with_reducible repeat (first | apply Kd.zza | apply Kd.zya | apply Kd.zib)); exact HO1.out) gb166 (Nat.le_of_eq hg.symm)) hb); replace HO160 := zaa.mk (Kd.N_below (Kd.N_elderB (by (with_reducible repeat (first | apply Kd.N_alloc | apply Kd.N_drewN | apply Kd.N_drew)); exact HO160.out) gb166 (Nat.le_of_eq hg.symm)) hb); replace HO164 := zaa.mk (Kd.zqc (Kd.zld (by (with_reducible repeat (first | apply Kd.zza | apply Kd.zya | apply Kd.zib)); exact HO164.out) gb166 (Nat.le_of_eq hg.symm)) hb); have BK166 := zaa.mk (hbox); have GW166 := zaa.mk ((by rw [hg]; exact (zja (by repeat (first | (with_reducible first | exact HB.out | apply zda | apply zba | apply zca | refine zea ?_ GE157.out) | exact HB.out))) : w.heap.size ≤ gb166)); have GE166 := zaa.mk ((by rw [hg]; exact (zja (by repeat (first | (with_reducible first | exact HB.out | apply zda | apply zba | apply zca | refine zea ?_ GE157.out) | exact HB.out))) : w.heap.size ≤ gb166)); replace HB := zaa.mk (zma (by repeat (first | (with_reducible first | exact HB.out | apply zda | apply zba | apply zca | refine zea ?_ GE157.out) | exact HB.out)) hb); have NB157_166 := zaa.mk ((by rw [hg]; exact Nat.ne_of_lt (zbc (g := gb157) (o := .cells #[.int .i64 a0_0, .slice A0_1 l0_1.length c0_1] 29 (0, 0)) (by (with_reducible repeat (first | refine zga ?_ _ | refine zha ?_ | refine zfa ?_ _)); exact BK157.out)) : gb157 ≠ gb166)); have NB166_157 := zaa.mk ((by rw [hg]; exact Nat.ne_of_gt (zbc (g := gb157) (o := .cells #[.int .i64 a0_0, .slice A0_1 l0_1.length c0_1] 29 (0, 0)) (by (with_reducible repeat (first | refine zga ?_ _ | refine zha ?_ | refine zfa ?_ _)); exact BK157.out)) : gb166 ≠ gb157)); replace BK157 := zaa.mk (zna (g := gb157) (o := .cells #[.int .i64 a0_0, .slice A0_1 l0_1.length c0_1] 29 (0, 0)) (by (with_reducible repeat (first | refine zga ?_ _ | refine zha ?_ | refine zfa ?_ _)); exact BK157.out) hb); clear hb hbox hg; have hnb16 := NB166_157.out; have hnc16 := NB157_166.out; have hcz17_0 : w15.cell? ⟨gb166, 0, none⟩ = some (.int .i64 0) := (zla BK166.out 0).trans rfl; have hcz17_1 : w15.cell? ⟨gb166, 1, none⟩ = some (.slice none 0 0) := (zla BK166.out 1).trans rfl; have hfz17_0 := zka BK166.out 0; have hfz17_1 := zka BK166.out 1; obtain ⟨Ao18, co18, eo18⟩ := Kd.V_slice HO164.out; subst eo18) | ((with_reducible refine zbb (N := 23) rfl ?_); refine Kd.R_lit (Kd.int .i64) _ 3 ?hg (N := 23) ?hd (xs := ([a2] : List Int)) (inner := [.int .i64 a2]) (ok := fun _ => True) (okp := fun _ => True) ?hr ?hp (fun _ hk => hk) trivial (Below.refl _ _) (Nat.le_refl _) (by simp) ?_; (case hd => rfl); (case hg => rfl); (case hr => first | (go_simp; done) | (go_simp; rfl)); (case hp => exact (Reps.one (show Kd.M (Kd.int .i64) _ _ _ a2 [.int .i64 a2] from rfl) (Reps.none _ _))); intro v168 w19 ho20 hb hg_ hnew_; clear hg_ hnew_; (first | rw [← Ny167.out] at ho20 | (simp only [Int.reduceToNat] at ho20; rw [← Ny167.out] at ho20)); replace HO0_1 := zaa.mk (Kd.V_elder' (by (with_reducible repeat (first | apply Kd.zza | apply Kd.zya | apply Kd.zib)); exact (Kd.zcc (Kd.zbe (p := ⟨gb166, 1, none⟩) (Kd.zbe (p := ⟨gb166, 0, none⟩) (Kd.zcc HO0_1.out (fun k_ hk => (⟨hk, hk.2⟩ : _ ∧ k_ ≠ gb166))) (fun _ hk => hk.2) (.int .i64 t161)) (fun _ hk => hk.2) (.slice Ao18 t162.length co18)) (fun _ h_ => h_.1))) (Kd.zxd ho20) hb); replace HO1 := zaa.mk (Kd.V_elder' (by (with_reducible repeat (first | apply Kd.zza | apply Kd.zya | apply Kd.zib)); exact (Kd.zcc (Kd.zbe (p := ⟨gb166, 1, none⟩) (Kd.zbe (p := ⟨gb166, 0, none⟩) (Kd.zcc HO1.out (fun k_ hk => (⟨hk, hk.2⟩ : _ ∧ k_ ≠ gb166))) (fun _ hk => hk.2) (.int .i64 t161)) (fun _ hk => hk.2) (.slice Ao18 t162.length co18)) (fun _ h_ => h_.1))) (Kd.zxd ho20) hb); replace HO160 := zaa.mk (Kd.N_elder' (by (with_reducible repeat (first | apply Kd.N_alloc | apply Kd.N_drewN | apply Kd.N_drew)); exact (Kd.N_mono (Kd.N_far (p := ⟨gb166, 1, none⟩) (Kd.N_far (p := ⟨gb166, 0, none⟩) (Kd.N_mono HO160.out (fun k_ hk => (⟨hk, hk.2⟩ : _ ∧ k_ ≠ gb166))) (fun _ hk => hk.2) (.int .i64 t161)) (fun _ hk => hk.2) (.slice Ao18 t162.length co18)) (fun _ h_ => h_.1))) (Kd.zxd ho20) hb); replace HO164 := zaa.mk (Kd.V_elder' (by (with_reducible repeat (first | apply Kd.zza | apply Kd.zya | apply Kd.zib)); exact (Kd.zcc (Kd.zbe (p := ⟨gb166, 1, none⟩) (Kd.zbe (p := ⟨gb166, 0, none⟩) (Kd.zcc HO164.out (fun k_ hk => (⟨hk, hk.2⟩ : _ ∧ k_ ≠ gb166))) (fun _ hk => hk.2) (.int .i64 t161)) (fun _ hk => hk.2) (.slice Ao18 t162.length co18)) (fun _ h_ => h_.1))) (Kd.zxd ho20) hb); have HO169 := zaa.mk (Kd.znd (Kd.R_newM (M := fun k_ => (w.heap.size ≤ k_)) ho20 (zja (by repeat (first | (with_reducible first | exact HB.out | apply zda | apply zba | apply zca | refine zea ?_ GE157.out | refine zea ?_ GE166.out) | exact HB.out))) (fun k_ h_ => h_)) (zja (by repeat (first | (with_reducible first | exact HB.out | apply zda | apply zba | apply zca | refine zea ?_ GE157.out | refine zea ?_ GE166.out) | exact HB.out)))); replace BK157 := zaa.mk (zna (g := gb157) (o := .cells #[.int .i64 a0_0, .slice A0_1 l0_1.length c0_1] 29 (0, 0)) (by (with_reducible repeat (first | refine zga ?_ _ | refine zha ?_ | refine zfa ?_ _)); refine zsc ?_ NB157_166.out _; (with_reducible repeat (first | refine zga ?_ _ | refine zha ?_ | refine zfa ?_ _)); refine zsc ?_ NB157_166.out _; (with_reducible repeat (first | refine zga ?_ _ | refine zha ?_ | refine zfa ?_ _)); exact BK157.out) hb); replace BK166 := zaa.mk (zna (g := gb166) (o := .cells #[.int .i64 t161, .slice Ao18 t162.length co18] 66 (0, 0)) (by (with_reducible repeat (first | refine zga ?_ _ | refine zha ?_ | refine zfa ?_ _)); refine zzc (cs := #[.int .i64 t161, .slice none 0 0]) ?_ 1 _ rfl; (with_reducible repeat (first | refine zga ?_ _ | refine zha ?_ | refine zfa ?_ _)); refine zzc (cs := #[.int .i64 0, .slice none 0 0]) ?_ 0 _ rfl; (with_reducible repeat (first | refine zga ?_ _ | refine zha ?_ | refine zfa ?_ _)); exact BK166.out) hb); replace HB := zaa.mk (zma (by repeat (first | (with_reducible first | exact HB.out | apply zda | apply zba | apply zca | refine zea ?_ GE157.out | refine zea ?_ GE166.out) | exact HB.out)) hb); clear hb ho20; obtain ⟨Ao21, co21, eo21⟩ := Kd.zfd HO169.out; subst eo21) | ((with_reducible refine zxa (f := 16) rfl ?_); refine zhd (some 24) rfl rfl Tryz.func16 (by kernel_rfl) rfl #[.slice Ao21 y167.length co21] rfl (by (try simp only [List.map_toArray, List.map_cons, List.map_nil]); first | done | rfl | (simp only [List.length_drop, List.length_take]; rfl)) ?_; (with_reducible refine (zzd.calls _ _ y167 true _ ?side1 ?side2 A6.out).mono ?_); (case side1 => repeat (first | exact (Kd.zgb HO169.out).2.2 | (with_reducible refine Kd.zrb ?_ _) | (with_reducible refine Kd.zqb ?_ _) | (with_reducible refine Kd.zmc ?_))); (case side2 => exact (Kd.zgb HO169.out).2.1); rintro e w22 ⟨rfl, hb⟩; refine ⟨_, rfl, ?_⟩; replace HO0_1 := zaa.mk (Kd.zqc (by (with_reducible repeat (first | apply Kd.zza | apply Kd.zya | apply Kd.zib)); exact HO0_1.out) hb); replace HO1 := zaa.mk (Kd.zqc (by (with_reducible repeat (first | apply Kd.zza | apply Kd.zya | apply Kd.zib)); exact HO1.out) hb); replace HO160 := zaa.mk (Kd.N_below (by (with_reducible repeat (first | apply Kd.N_alloc | apply Kd.N_drewN | apply Kd.N_drew)); exact HO160.out) hb); replace HO164 := zaa.mk (Kd.zqc (by (with_reducible repeat (first | apply Kd.zza | apply Kd.zya | apply Kd.zib)); exact HO164.out) hb); replace HO169 := zaa.mk (Kd.zcb (by (with_reducible repeat (first | apply Kd.zqa | apply Kd.zpa | apply Kd.zsa)); exact HO169.out) hb); replace BK157 := zaa.mk (zna (g := gb157) (o := .cells #[.int .i64 a0_0, .slice A0_1 l0_1.length c0_1] 29 (0, 0)) (by (with_reducible repeat (first | refine zga ?_ _ | refine zha ?_ | refine zfa ?_ _)); exact BK157.out) hb); replace BK166 := zaa.mk (zna (g := gb166) (o := .cells #[.int .i64 t161, .slice Ao18 t162.length co18] 66 (0, 0)) (by (with_reducible repeat (first | refine zga ?_ _ | refine zha ?_ | refine zfa ?_ _)); exact BK166.out) hb); replace HB := zaa.mk (zma (by repeat (first | (with_reducible first | exact HB.out | apply zda | apply zba | apply zca | refine zea ?_ GE157.out | refine zea ?_ GE166.out) | exact HB.out)) hb); (try clear hb); (try clear hb2); (try clear hk); (try clear hi); have hcz23_0 : w22.cell? ⟨gb166, 0, none⟩ = some (.int .i64 t161) := (zla BK166.out 0).trans rfl; have hcz23_1 : w22.cell? ⟨gb166, 1, none⟩ = some (.slice Ao18 t162.length co18) := (zla BK166.out 1).trans rfl; have hfz23_0 := zka BK166.out 0; have hfz23_1 := zka BK166.out 1) | ((with_reducible refine zxa (f := 17) rfl ?_); refine zhd (some 29) rfl rfl Tryz.func17 (by kernel_rfl) rfl #[.agg #[.int .i64 t161, .slice Ao18 t162.length co18], .slice A1 l1.length c1, .int .i64 a2] rfl (by (try simp only [List.map_toArray, List.map_cons, List.map_nil]); first | done | rfl | (simp only [List.length_drop, List.length_take]; rfl)) ?_; (with_reducible refine (zfb.calls k t161 _ _ t162 _ _ l1 a2 t171 _ ?side1 ?side2 ?side3 ?side4 A8.out).mono ?_); (case side1 => repeat (first | exact (Kd.zwd HO164.out).2.2 | (with_reducible refine Kd.zrb ?_ _) | (with_reducible refine Kd.zqb ?_ _) | (with_reducible refine Kd.zmc ?_))); (case side2 => exact (Kd.zwd HO164.out).2.1); (case side3 => repeat (first | exact (Kd.zwd HO1.out).2.2 | (with_reducible refine Kd.zrb ?_ _) | (with_reducible refine Kd.zqb ?_ _) | (with_reducible refine Kd.zmc ?_))); (case side4 => exact (Kd.zwd HO1.out).2.1); rintro e w24 ⟨v172, rfl, ho0, hb⟩; refine ⟨_, rfl, ?_⟩; replace HO0_1 := zaa.mk (Kd.V_elder' (by (with_reducible repeat (first | apply Kd.zza | apply Kd.zya | apply Kd.zib)); exact HO0_1.out) (Kd.zxd ho0) hb); replace HO1 := zaa.mk (Kd.V_elder' (by (with_reducible repeat (first | apply Kd.zza | apply Kd.zya | apply Kd.zib)); exact HO1.out) (Kd.zxd ho0) hb); replace HO160 := zaa.mk (Kd.N_elder' (by (with_reducible repeat (first | apply Kd.N_alloc | apply Kd.N_drewN | apply Kd.N_drew)); exact HO160.out) (Kd.zxd ho0) hb); replace HO164 := zaa.mk (Kd.V_elder' (by (with_reducible repeat (first | apply Kd.zza | apply Kd.zya | apply Kd.zib)); exact HO164.out) (Kd.zxd ho0) hb); have HO173 := zaa.mk (Kd.znd (Kd.R_new' (Kd.R_newM (M := fun k_ => (w.heap.size ≤ k_)) ho0 (zja (by repeat (first | (with_reducible first | exact HB.out | apply zda | apply zba | apply zca | refine zea ?_ GE157.out | refine zea ?_ GE166.out) | exact HB.out))) (fun k_ h_ => h_)) (Kd.R_lt (by (with_reducible repeat (first | apply Kd.zqa | apply Kd.zpa | apply Kd.zsa)); exact HO169.out))) (zja (by repeat (first | (with_reducible first | exact HB.out | apply zda | apply zba | apply zca | refine zea ?_ GE157.out | refine zea ?_ GE166.out) | exact HB.out)))); replace HO169 := zaa.mk (Kd.R_elder' (by (with_reducible repeat (first | apply Kd.zqa | apply Kd.zpa | apply Kd.zsa)); exact HO169.out) (Kd.zxd ho0) hb); replace BK157 := zaa.mk (zna (g := gb157) (o := .cells #[.int .i64 a0_0, .slice A0_1 l0_1.length c0_1] 29 (0, 0)) (by (with_reducible repeat (first | refine zga ?_ _ | refine zha ?_ | refine zfa ?_ _)); exact BK157.out) hb); replace BK166 := zaa.mk (zna (g := gb166) (o := .cells #[.int .i64 t161, .slice Ao18 t162.length co18] 66 (0, 0)) (by (with_reducible repeat (first | refine zga ?_ _ | refine zha ?_ | refine zfa ?_ _)); exact BK166.out) hb); replace HB := zaa.mk (zma (by repeat (first | (with_reducible first | exact HB.out | apply zda | apply zba | apply zca | refine zea ?_ GE157.out | refine zea ?_ GE166.out) | exact HB.out)) hb); (try clear hb); (try clear hb2); (try clear hk); (try clear hi); (try clear ho0)))
     go_ret2
     exact ⟨_, by first | rfl | (simp [zwa, zva] <;> rfl) | (simp [*, zwa, zva] <;> rfl), by (with_reducible repeat (first | apply Kd.zqa | apply Kd.zpa | apply Kd.zsa)); exact Kd.zsd HO173.out (fun _ hk => hk.1.1), by repeat (first | (with_reducible first | exact HB.out | apply zda | apply zba | apply zca | refine zea ?_ GE157.out | refine zea ?_ GE166.out) | exact HB.out)⟩
   · replace c7 := Bool.eq_false_iff.mpr c7
     subst c7
     have H1 : (none) = some (r1, r2) := by rw [if_neg (show ¬ (false = true) by decide)] at H; exact H
     clear H
     have H := H1
     clear H1
     exact absurd H (by simp)
 · rw [if_neg c5] at H
   exact absurd H (by simp)
end Go.Proofs.YtoacbkoenkiahaaGreat.PTopGluePlate
end
section
namespace Go.Proofs.YtoacbkoenkiahaaGreat.PTopGluePlate
open Go.RowKit Go.Proofs.YtoacbkoenkiahaaGreatW.PrintWords Go.Proofs.YtoacbkoenkiahaaGreatW.PrintLast Go.Proofs.YtoacbkoenkiahaaGreatW.PrintMore
attribute [local go_sem] znb zlb zhc zgc zeb zdb zmb zkb
set_option linter.unusedVariables false
set_option linter.unusedSimpArgs false
def zab.l0 : Nat → List Int → List Int → Int → Option (Bool)
 | 0, _, _, _ => none
 | k + 1, x0, x1, x5 => if x5 < (x0.length : Int) then (if 0 ≤ x5 then (if x5 < (x1.length : Int) then (if (rd x0 x5) = (rd x1 x5) then (zab.l0 k x0 x1 (wrap64 (x5 + 1))) else (none)) else (none)) else (none)) else (some true)
def zab.f (k : Nat) (l0 : List Int) (l1 : List Int) : Option (Bool) := if (l0.length : Int) = (l1.length : Int) then (zab.l0 k l0 l1 0) else (none)
set_option maxHeartbeats 8000000 in
set_option maxRecDepth 100000 in
theorem zab.calls (k : Nat) (A0 : Option Addr) (c0 : Nat) (l0 : List Int) (A1 : Option Addr) (c1 : Nat) (l1 : List Int) (r : Bool) (w : World) (hr0 : Kd.C (Kd.int .i64) w A0 l0.length l0) (hc0 : l0.length ≤ c0) (hr1 : Kd.C (Kd.int .i64) w A1 l1.length l1) (hc1 : l1.length ≤ c1) (h : zab.f k l0 l1 = some r) :
 Calls Tryz.prog 7 #[.slice A0 l0.length c0, .slice A1 l1.length c1] w fun e w' => e = .returned (.bool r) ∧ zjc w w' := by
 have HR0 := zaa.mk hr0
 have HC0 := zaa.mk hc0
 clear hr0 hc0
 have HR1 := zaa.mk hr1
 have HC1 := zaa.mk hc1
 clear hr1 hc1
 have H : (if (l0.length : Int) = (l1.length : Int) then (zab.l0 k l0 l1 0) else (none)) = some r := h
 clear h
 by_cases c3 : (l0.length : Int) = (l1.length : Int)
 · rw [if_pos c3] at H
   have c3b0 : ((l0.length : Int) == (l1.length : Int)) = true := beq_iff_eq.mpr c3
   have c3b1 : ((l0.length : Int) != (l1.length : Int)) = false := bne_eq_false_iff_eq.mpr c3
   have c3b2 : (l0.length == l1.length) = true := by first | simpa using c3 | (simp at c3 ⊢; omega)
   clear c3
   have H' := zaa.mk H
   clear H
   go_enter Tryz.func7, Tryz.ntmps7
   go_wp2
   repeat (go_quiet (fail); try go_wp2)
   go_loopg [5] k (fun kq v5 w' => ∃ (x5_1 : Int), v5 = .int .i64 x5_1 ∧ zaa (zab.l0 kq l0 l1 x5_1 = some r) ∧ zaa (kq ≤ k) ∧ zjc w w')
   case atStart => exact ⟨(0), (by first | rfl | (simp; done) | (simp [*]; done)), H', ⟨Nat.le_refl _⟩, by repeat (first | exact zjc.refl _ | apply zjc.step)⟩
   case round =>
    clear H'
    try clear c1
    try clear p2
    try clear c3
    try clear c3b0
    try clear c3b1
    try clear c3b2
    obtain ⟨x5_1, rfl, HA, HK1, ⟨m1, rfl⟩⟩ := hrel
    cases gk with
    | zero => exact absurd HA.out (by simp [zab.l0])
    | succ k1 =>
     have H := HA.out
     clear HA
     simp only [zab.l0] at H
     by_cases c4 : x5_1 < (l0.length : Int)
     · rw [if_pos c4] at H
       have c4b0 : decide (x5_1 < (l0.length : Int)) = true := decide_eq_true c4
       clear c4
       by_cases c5 : 0 ≤ x5_1
       · rw [if_pos c5] at H
         have c5b0 : decide (0 ≤ x5_1) = true := decide_eq_true c5
         clear c5
         by_cases c6 : x5_1 < (l1.length : Int)
         · rw [if_pos c6] at H
           have c6b0 : decide (x5_1 < (l1.length : Int)) = true := decide_eq_true c6
           clear c6
           by_cases c7 : (rd l0 x5_1) = (rd l1 x5_1)
           · rw [if_pos c7] at H
             have c7b0 : ((rd l0 x5_1) == (rd l1 x5_1)) = true := beq_iff_eq.mpr c7
             have c7b1 : ((rd l0 x5_1) != (rd l1 x5_1)) = false := bne_eq_false_iff_eq.mpr c7
             clear c7
             have H' := zaa.mk H
             clear H
             have p174 : 0 ≤ (x5_1 : Int) := of_decide_eq_true (by first | (with_reducible assumption) | assumption)
             have q174 : x5_1 < (l0.length : Int) := of_decide_eq_true (by first | (with_reducible assumption) | assumption)
             obtain ⟨ad174, e174, hx174_0⟩ := Kd.at_int HR0.out x5_1 p174 q174
             cases e174
             replace p174 := eq_true p174
             replace q174 := eq_true q174
             have p175 : 0 ≤ (x5_1 : Int) := of_decide_eq_true (by first | (with_reducible assumption) | assumption)
             have q175 : x5_1 < (l1.length : Int) := of_decide_eq_true (by first | (with_reducible assumption) | assumption)
             obtain ⟨ad175, e175, hx175_0⟩ := Kd.at_int HR1.out x5_1 p175 q175
             cases e175
             replace p175 := eq_true p175
             replace q175 := eq_true q175
             go_wp2
             repeat (go_quiet (fail); try go_wp2)
             go_roundg k1
             case measure => have := HK1.out; omega
             case rel => exact ⟨(wrap64 (x5_1 + 1)), (by first | rfl | (simp; done) | (simp [*]; done)), H', ⟨by have := HK1.out; omega⟩, by repeat (first | exact zjc.refl _ | apply zjc.step)⟩
           · rw [if_neg c7] at H
             exact absurd H (by simp)
         · rw [if_neg c6] at H
           exact absurd H (by simp)
       · rw [if_neg c5] at H
         exact absurd H (by simp)
     · rw [if_neg c4] at H
       have c4b0 : decide (x5_1 < (l0.length : Int)) = false := decide_eq_false c4
       clear c4
       obtain rfl := Option.some.inj H
       go_wp2
       repeat (go_quiet (fail); try go_wp2)
       go_ret
       exact ⟨by first | rfl | (simp; done) | (simp [*]; done), by repeat (first | exact zjc.refl _ | apply zjc.step)⟩
 · rw [if_neg c3] at H
   exact absurd H (by simp)
end Go.Proofs.YtoacbkoenkiahaaGreat.PTopGluePlate
end
section
namespace Go.Proofs.YtoacbkoenkiahaaGreat.PTopGluePlate
open Go.RowKit Go.Proofs.YtoacbkoenkiahaaGreatW.PrintWords Go.Proofs.YtoacbkoenkiahaaGreatW.PrintLast Go.Proofs.YtoacbkoenkiahaaGreatW.PrintMore
attribute [local go_sem] znb zlb zhc zgc zeb zdb zmb zkb
set_option linter.unusedVariables false
set_option linter.unusedSimpArgs false
set_option maxHeartbeats 1000000 in
theorem print_within_1.calls (x lo hi : Int) (a b : Addr) (w : World) (ha : w.cell? a = some (.int .i64 lo)) (hb : w.cell? b = some (.int .i64 hi)) :
 Calls Tryz.prog 45 #[.int .i64 x, .pointer (some a), .pointer (some b)] w fun e w' => e = .returned (.bool (decide (x < lo) || decide (hi < x))) ∧ w = w' := by
 by_cases h1 : x < lo
 · have h1' : decide (x < lo) = true := by simpa using h1
   go_enter Tryz.func45, Tryz.ntmps45
   go_wp2
   go_ret
   exact ⟨by simp [h1], rfl⟩
 · have h1' : decide (x < lo) = false := by simpa using h1
   go_enter Tryz.func45, Tryz.ntmps45
   go_wp2
   go_ret
   exact ⟨by simp [h1], rfl⟩
end Go.Proofs.YtoacbkoenkiahaaGreat.PTopGluePlate
end
section
namespace Go.Proofs.YtoacbkoenkiahaaGreat.PTopGluePlate
open Go.RowKit Go.Proofs.YtoacbkoenkiahaaGreatW.PrintWords Go.Proofs.YtoacbkoenkiahaaGreatW.PrintLast Go.Proofs.YtoacbkoenkiahaaGreatW.PrintMore
attribute [local go_sem] znb zlb zhc zgc zeb zdb zmb zkb
set_option linter.unusedVariables false
set_option linter.unusedSimpArgs false
def zxb.f (a0 a1 : Int) (l2 : List Int) : Option Bool := some (l2.all fun n => decide (a0 ≤ n) && decide (n ≤ a1))
set_option maxHeartbeats 1000000 in
theorem zxb.calls (a0 : Int) (a1 : Int) (A2 : Option Addr) (c2 : Nat) (l2 : List Int) (r : Bool) (w : World) (hr2 : Kd.C (Kd.int .i64) w A2 l2.length l2) (hc2 : l2.length ≤ c2) (h : zxb.f a0 a1 l2 = some r) :
 Calls Tryz.prog 25 #[.int .i64 a0, .int .i64 a1, .slice A2 l2.length c2] w fun e w' => e = .returned (.bool r) ∧ Below w.heap.size w w' := by
 obtain rfl := Option.some.inj h
 have eg : ∀ args w, (callFunc 45 args).run Tryz.prog w = .ok (.enter 45 args) w := enters_of Tryz.func45 (by kernel_rfl) rfl
 have HB := zaa.mk (below_two (w := w) (o := .cells #[.int .i64 a0] 3) (o' := .cells #[.int .i64 a1] 3))
 have H := zaa.mk (slices_ContainsFunc_int.calls 45 #[.pointer (some ⟨w.heap.size, 0, none⟩), .pointer (some ⟨w.heap.size + 1, 0, none⟩)] (fun x => some (decide (x < a0) || decide (a1 < x))) A2 c2 l2 _ ((w.alloc (.cells #[.int .i64 a0] 3)).alloc (.cells #[.int .i64 a1] 3)) (Kd.zkc hr2 HB.out) hc2 eg (by
  intro W x hx hW b hb
  obtain rfl := Option.some.inj hb
  refine (print_within_1.calls x a0 a1 ⟨w.heap.size, 0, none⟩ ⟨w.heap.size + 1, 0, none⟩ W ?_ ?_).mono ?_
  · rw [hW.cell (by simp; omega)]; simp
  · rw [hW.cell (by simp)]; simp
  · rintro e w' ⟨rfl, rfl⟩; exact ⟨rfl, Below.refl _ _⟩) (containsO_total _ (fun x => decide (x < a0) || decide (a1 < x)) l2 (fun _ _ => rfl)))
 have HE : zaa ((!(l2.any fun x => decide (x < a0) || decide (a1 < x))) = (l2.all fun n => decide (a0 ≤ n) && decide (n ≤ a1))) := ⟨by
  rw [List.not_any_eq_all_not]; congr 1; funext x; rw [Bool.not_or, ← decide_not, ← decide_not]; simp⟩
 clear hr2 hc2 h
 generalize (l2.any fun x => decide (x < a0) || decide (a1 < x)) = q at H HE
 go_enter Tryz.func25, Tryz.ntmps25
 go_wp2_with (go_at_call 44; refine H.out.mono ?_; rintro e w' ⟨rfl, hb'⟩; have HB' := zaa.mk hb'; clear hb')
 go_ret
 exact ⟨by rw [← HE.out]; rfl, zma HB.out HB'.out⟩
end Go.Proofs.YtoacbkoenkiahaaGreat.PTopGluePlate
end
section
namespace Go.Proofs.YtoacbkoenkiahaaGreat.PTopGluePlate
open Go.RowKit Go.Proofs.YtoacbkoenkiahaaGreatW.PrintWords Go.Proofs.YtoacbkoenkiahaaGreatW.PrintLast Go.Proofs.YtoacbkoenkiahaaGreatW.PrintMore
attribute [local go_sem] znb zlb zhc zgc zeb zdb zmb zkb
set_option linter.unusedVariables false
set_option linter.unusedSimpArgs false
def print_open_1.f (l0 : List Int) (a1_0 : Int) (a1_1 : Int) (l1_2 : List (List Int)) : Option (Bool) := if (l0.length : Int) = a1_1 then (if 0 ≤ a1_0 then ((zxb.f 0 (wrap64 ((shl .i64 1 a1_0) - 1)) l0).bind fun t176 => (some (!t176))) else (none)) else (some true)
set_option maxHeartbeats 8000000 in
set_option maxRecDepth 100000 in
theorem print_open_1.calls (A0 : Option Addr) (c0 : Nat) (l0 : List Int) (g1_ : Nat) (a1_0 : Int) (a1_1 : Int) (A1_2 : Option Addr) (c1_2 : Nat) (l1_2 : List (List Int)) (r : Bool) (w : World) (hr0 : Kd.C (Kd.int .i64) w A0 l0.length l0) (hc0 : l0.length ≤ c0) (hr1_2 : Kd.C (Kd.slice 3 (Kd.int .i64)) w A1_2 l1_2.length l1_2) (hc1_2 : l1_2.length ≤ c1_2) (hbx1 : w.heap[g1_]? = some (.cells #[.int .i64 a1_0, .int .i64 a1_1, .slice A1_2 l1_2.length c1_2] 40 (0, 0))) (h : print_open_1.f l0 a1_0 a1_1 l1_2 = some r) :
 Calls Tryz.prog 37 #[.slice A0 l0.length c0, .pointer (some ⟨g1_, 0, none⟩)] w fun e w' => e = .returned (.bool r) ∧ Below w.heap.size w w' := by
 have HR0 := zaa.mk hr0
 have HC0 := zaa.mk hc0
 clear hr0 hc0
 have HR1_2 := zaa.mk hr1_2
 have HC1_2 := zaa.mk hc1_2
 clear hr1_2 hc1_2
 have BK1 := zaa.mk hbx1
 clear hbx1
 have HB := zaa.mk (Below.refl w.heap.size w)
 have H : (if (l0.length : Int) = a1_1 then (if 0 ≤ a1_0 then ((zxb.f 0 (wrap64 ((shl .i64 1 a1_0) - 1)) l0).bind fun t176 => (some (!t176))) else (none)) else (some true)) = some r := h
 clear h
 by_cases c3 : (l0.length : Int) = a1_1
 · rw [if_pos c3] at H
   have c3b0 : ((l0.length : Int) == a1_1) = true := beq_iff_eq.mpr c3
   have c3b1 : ((l0.length : Int) != a1_1) = false := bne_eq_false_iff_eq.mpr c3
   clear c3
   by_cases c4 : 0 ≤ a1_0
   · rw [if_pos c4] at H
     have c4b0 := eq_true c4
     have c4b1 : decide (0 ≤ a1_0) = true := decide_eq_true c4
     clear c4
     obtain ⟨ji5, hji5⟩ : ∃ j_ : Int, (shl .i64 1 a1_0) = j_ := ⟨_, rfl⟩
     replace H : ((zxb.f 0 (wrap64 ((ji5) - 1)) l0).bind fun t176 => (some (!t176))) = some r := by first | (rw [hji5] at H; exact H) | (simp only [hji5] at H ⊢; exact H)
     have hji5_ : (IntKind.i64.wrap (1 * 2 ^ min a1_0.toNat 64)) = ji5 := hji5
     have hji5z : a1_0 ≤ 64 → (IntKind.i64.wrap (1 * 2 ^ a1_0.toNat)) = ji5 := shl_small hji5
     have hji5u : (IntKind.i64.wrap (2 ^ min a1_0.toNat 64)) = ji5 := by have h_ := hji5_; rw [Int.one_mul] at h_; exact h_
     have hji5v : a1_0 ≤ 64 → (IntKind.i64.wrap (2 ^ a1_0.toNat)) = ji5 := fun hle_ => by have h_ := hji5z hle_; rw [Int.one_mul] at h_; exact h_
     have hji5y : (wrap64 (1 * 2 ^ min a1_0.toNat 64)) = ji5 := (zpb _).symm.trans hji5_
     have hji5x : a1_0 ≤ 64 → (wrap64 (1 * 2 ^ a1_0.toNat)) = ji5 := fun h_ => (zpb _).symm.trans (hji5z h_)
     replace H := Option.bind_eq_some_iff.mp H
     obtain ⟨t176, A60, H⟩ := H
     replace H : (some (!t176)) = some r := H
     have A6 := zaa.mk A60
     clear A60
     obtain rfl := Option.some.inj H
     have hcz7_0 : w.cell? ⟨g1_, 0, none⟩ = some (.int .i64 a1_0) := (zla BK1.out 0).trans rfl
     have hcz7_1 : w.cell? ⟨g1_, 1, none⟩ = some (.int .i64 a1_1) := (zla BK1.out 1).trans rfl
     have hcz7_2 : w.cell? ⟨g1_, 2, none⟩ = some (.slice A1_2 l1_2.length c1_2) := (zla BK1.out 2).trans rfl
     have hfz7_0 := zka BK1.out 0
     have hfz7_1 := zka BK1.out 1
     have hfz7_2 := zka BK1.out 2
     go_enter Tryz.func37, Tryz.ntmps37
     go_wp2_with (first | (go_at_call 25; (with_reducible refine (zxb.calls 0 (wrap64 ((ji5) - 1)) _ _ l0 t176 _ ?side1 ?side2 A6.out).mono ?_); (case side1 => repeat (first | exact HR0.out | (with_reducible refine Kd.zrb ?_ _) | (with_reducible refine Kd.zqb ?_ _) | (with_reducible refine Kd.zmc ?_))); (case side2 => exact HC0.out); rintro e w8 ⟨rfl, hb⟩; replace BK1 := zaa.mk (zna (g := g1_) (o := .cells #[.int .i64 a1_0, .int .i64 a1_1, .slice A1_2 l1_2.length c1_2] 40 (0, 0)) (by (with_reducible repeat (first | refine zga ?_ _ | refine zha ?_ | refine zfa ?_ _)); exact BK1.out) hb); replace HB := zaa.mk (zma (by repeat (first | (with_reducible first | exact HB.out | apply zda | apply zba | apply zca | refine zea ?_ GE1.out) | exact HB.out)) hb); (try clear hb); (try clear hb2); (try clear hk); (try clear hi)))
     go_ret
     exact ⟨by first | rfl | (simp [zwa, zva] <;> rfl) | (simp only [← hji5]; first | rfl | (simp [zwa, zva] <;> rfl)) | (simp [*, zwa, zva] <;> rfl), by repeat (first | (with_reducible first | exact HB.out | apply zda | apply zba | apply zca | refine zea ?_ GE1.out) | exact HB.out)⟩
   · rw [if_neg c4] at H
     exact absurd H (by simp)
 · rw [if_neg c3] at H
   have c3b0 : ((l0.length : Int) == a1_1) = false := beq_eq_false_iff_ne.mpr c3
   have c3b1 : ((l0.length : Int) != a1_1) = true := bne_iff_ne.mpr c3
   obtain rfl := Option.some.inj H
   have hcz9_0 : w.cell? ⟨g1_, 0, none⟩ = some (.int .i64 a1_0) := (zla BK1.out 0).trans rfl
   have hcz9_1 : w.cell? ⟨g1_, 1, none⟩ = some (.int .i64 a1_1) := (zla BK1.out 1).trans rfl
   have hcz9_2 : w.cell? ⟨g1_, 2, none⟩ = some (.slice A1_2 l1_2.length c1_2) := (zla BK1.out 2).trans rfl
   have hfz9_0 := zka BK1.out 0
   have hfz9_1 := zka BK1.out 1
   have hfz9_2 := zka BK1.out 2
   go_enter Tryz.func37, Tryz.ntmps37
   go_wp2
   go_ret
   exact ⟨by first | rfl | (simp [zwa, zva] <;> rfl) | (simp [*, zwa, zva] <;> rfl), by repeat (first | (with_reducible first | exact HB.out | apply zda | apply zba | apply zca | refine zea ?_ GE1.out) | exact HB.out)⟩
end Go.Proofs.YtoacbkoenkiahaaGreat.PTopGluePlate
end
section
namespace Go.Proofs.YtoacbkoenkiahaaGreat.PTopGluePlate
open Go.RowKit Go.Proofs.YtoacbkoenkiahaaGreatW.PrintWords Go.Proofs.YtoacbkoenkiahaaGreatW.PrintLast Go.Proofs.YtoacbkoenkiahaaGreatW.PrintMore
attribute [local go_sem] znb zlb zhc zgc zeb zdb zmb zkb
set_option linter.unusedVariables false
set_option linter.unusedSimpArgs false
def Pred_sl_int_64 (P : Program) (g : Nat) (lb : Array Value) (l : List (List Int)) (p : List Int → Option Bool) (w : World) : Prop :=
 ∀ (W : World) (x : List Int) (A : Option Addr) (c : Nat), x ∈ l → Kd.C (Kd.int .i64) W A x.length x → x.length ≤ c → Below w.heap.size w W → ∀ b, p x = some b → Calls P g (#[.slice A x.length c] ++ lb) W fun e w' => e = .returned (.bool b) ∧ Below W.heap.size W w'
theorem at_nat_sl_int {w : World} {A : Option Addr} {xs : List (List Int)} (h : Kd.C (Kd.slice 3 (Kd.int .i64)) w A xs.length xs) (k : Nat) (hk : k < xs.length) :
 ∃ ad A0 c0, A = some ad ∧ w.cell? (ad.add k) = some (.slice A0 xs[k].length c0) ∧ xs[k].length ≤ c0 ∧ Kd.C (Kd.int .i64) w A0 xs[k].length xs[k] := by
 obtain ⟨ad, c, e0, hc, hK, hcell⟩ := Kd.C_get h [] (k : Int) (by omega) (by omega)
 obtain ⟨A0, c0, rfl, hl, hr⟩ := hK
 have he : xs.getD (k : Int).toNat [] = xs[k] := by simp [List.getD_eq_getElem?_getD, List.getElem?_eq_getElem hk]
 rw [he] at hl hr hcell
 have hc0 := hcell 0 _ rfl
 refine ⟨ad, A0, c0, e0, ?_, hl, hr⟩
 have hz : ((Kd.slice 3 (Kd.int .i64))).sz = 1 := rfl
 rw [hz] at hc0
 simpa using hc0
set_option maxHeartbeats 2000000 in
set_option maxRecDepth 100000 in
theorem slices_IndexFunc_sl_int.calls (g : Nat) (lb : Array Value) (p : List Int → Option Bool) (A0 : Option Addr) (c0 : Nat) (l0 : List (List Int)) (r : Int) (w : World) (hr0 : Kd.C (Kd.slice 3 (Kd.int .i64)) w A0 l0.length l0) (hc0 : l0.length ≤ c0)
    (eg : ∀ args w, (callFunc g args).run Tryz.prog w = .ok (.enter g args) w) (hp : Pred_sl_int_64 Tryz.prog g lb l0 p w) (h : idxO p l0 0 = some r) :
    Calls Tryz.prog 64 #[.slice A0 l0.length c0, .func (.func g) #[] lb] w fun e w' => e = .returned (.int .i64 r) ∧ Below w.heap.size w w' := by
  have HR0 := zaa.mk hr0
  have HB := zaa.mk (Below.refl w.heap.size w)
  have HP := zaa.mk hp
  have HH := zaa.mk h
  have hlen : l0.length ≤ 9223372036854775807 := hr0.2.1
  clear hr0 hc0 hp h
  go_enter Tryz.func64, Tryz.ntmps64
  go_wp2
  go_loopw [8] (fun v8 wr => ∃ kk : Nat, kk ≤ l0.length ∧ v8 = .int .i64 kk ∧ zaa (idxO p (l0.drop kk) kk = some r) ∧ zaa (Below w.heap.size w wr)) (fun v8 _ => l0.length - (intOf v8).toNat)
  case atStart => exact ⟨0, Nat.zero_le _, rfl, ⟨by simpa using HH.out⟩, HB⟩
  case round =>
    obtain ⟨kk, hkk, rfl, HI, HW⟩ := hrel
    by_cases hlt : kk < l0.length
    · have hlz : (kk : Int) < (l0.length : Int) := by omega
      obtain ⟨ad, A1, c1, e0, hx, hc1, hr1⟩ := at_nat_sl_int (Kd.zkc HR0.out HW.out) kk hlt
      cases e0
      have hcall := HP.out wr l0[kk] A1 c1 (List.getElem_mem hlt) hr1 hc1 HW.out
      clear hr1 hc1
      have hd := HI.out
      rw [idxO_drop p l0 kk hlt] at hd
      have HD := zaa.mk hd
      clear hd HI
      generalize l0[kk] = y at hx hcall HD
      have HC := zaa.mk hcall
      clear hcall
      cases hq : p y with
      | none => exact absurd HD.out (by rw [hq]; simp)
      | some b =>
        have HC2 := zaa.mk (HC.out b hq)
        clear HC
        cases b with
        | true =>
          go_wp2_with (go_at_fn g; refine HC2.out.mono ?_; rintro e w' ⟨rfl, hb'⟩; have HB' := zaa.mk hb'; clear hb')
          go_ret
          refine ⟨?_, zma HW.out HB'.out⟩
          have h1 := HD.out
          rw [hq] at h1
          have h2 : (kk : Int) = r := by simpa using h1
          rw [← h2]; rfl
        | false =>
          have HI : zaa (idxO p (l0.drop (kk + 1)) (kk + 1) = some r) := ⟨by have h1 := HD.out; rw [hq] at h1; simpa using h1⟩
          go_wp2_with (go_at_fn g; refine HC2.out.mono ?_; rintro e w' ⟨rfl, hb'⟩; have HB' := zaa.mk hb'; clear hb')
          go_roundw
          case rel => exact ⟨kk + 1, by omega, by go_num, HI, ⟨zma HW.out HB'.out⟩⟩
          case measure => simp [intOf]; omega
    · obtain rfl : kk = l0.length := by omega
      go_wp2
      go_ret
      have h1 := HI.out
      rw [List.drop_length] at h1
      exact ⟨by have h2 : (-1 : Int) = r := (by simpa [idxO] using h1); rw [← h2]; rfl, HW.out⟩
end Go.Proofs.YtoacbkoenkiahaaGreat.PTopGluePlate
end
section
namespace Go.Proofs.YtoacbkoenkiahaaGreat.PTopGluePlate
open Go.RowKit Go.Proofs.YtoacbkoenkiahaaGreatW.PrintWords Go.Proofs.YtoacbkoenkiahaaGreatW.PrintLast Go.Proofs.YtoacbkoenkiahaaGreatW.PrintMore
attribute [local go_sem] znb zlb zhc zgc zeb zdb zmb zkb
set_option linter.unusedVariables false
set_option linter.unusedSimpArgs false
def Pred_sl_int_38 (P : Program) (g : Nat) (lb : Array Value) (l : List (List Int)) (p : List Int → Option Bool) (w : World) : Prop :=
 ∀ (W : World) (x : List Int) (A : Option Addr) (c : Nat), x ∈ l → Kd.C (Kd.int .i64) W A x.length x → x.length ≤ c → Below w.heap.size w W → ∀ b, p x = some b → Calls P g (#[.slice A x.length c] ++ lb) W fun e w' => e = .returned (.bool b) ∧ Below W.heap.size W w'
set_option maxHeartbeats 1000000 in
theorem slices_ContainsFunc_sl_int.calls (g : Nat) (lb : Array Value) (p : List Int → Option Bool) (A0 : Option Addr) (c0 : Nat) (l0 : List (List Int)) (r : Bool) (w : World) (hr0 : Kd.C (Kd.slice 3 (Kd.int .i64)) w A0 l0.length l0) (hc0 : l0.length ≤ c0)
 (eg : ∀ args w, (callFunc g args).run Tryz.prog w = .ok (.enter g args) w) (hp : Pred_sl_int_38 Tryz.prog g lb l0 p w) (h : containsO p l0 = some r) :
 Calls Tryz.prog 38 #[.slice A0 l0.length c0, .func (.func g) #[] lb] w fun e w' => e = .returned (.bool r) ∧ Below w.heap.size w w' := by
 obtain ⟨x, hx, hxr⟩ := containsO_idx p l0 r h
 have H := zaa.mk (slices_IndexFunc_sl_int.calls g lb p A0 c0 l0 x w hr0 hc0 eg hp hx)
 have HX := zaa.mk hxr
 clear hr0 hc0 hp h hx hxr
 go_enter Tryz.func38, Tryz.ntmps38
 go_wp2_with (go_at_call 64; refine H.out.mono ?_; rintro e w' ⟨rfl, hb'⟩; have HB' := zaa.mk hb'; clear hb')
 go_ret
 exact ⟨by rw [← HX.out]; rfl, HB'.out⟩
end Go.Proofs.YtoacbkoenkiahaaGreat.PTopGluePlate
end
