/- A part of the proof of the law TopGluePlate: whatever the input, the call returns true and its arguments read as they read before; no condition. Written by a program of this session out of its own texts and the printed ones. -/
import Derived.WalkKit
import Derived.ProofKit
import Derived.OpenShut
import Derived.ShutString
import Derived.ChangeOld
import Derived.Below
import Derived.SizedLaws
import Derived.Laws.IdiomArrays
import Derived.Test.YtoacbkoenkiahaaGreatRows
import Derived.Test.YtoacbkoenkiahaaGreatPkW1
import Derived.Test.YtoacbkoenkiahaaGreatPkX1
import Derived.Test.YtoacbkoenkiahaaGreatPkX2
import Derived.Test.YtoacbkoenkiahaaGreatPkX3
import Derived.Test.YtoacbkoenkiahaaGreatPkX4
import Derived.Test.YtoacbkoenkiahaaGreatPkX5
section
namespace Go.Proofs.YtoacbkoenkiahaaGreat.PTopGluePlate
open Go.RowKit Go.Proofs.YtoacbkoenkiahaaGreatW.PrintWords Go.Proofs.YtoacbkoenkiahaaGreatW.PrintLast Go.Proofs.YtoacbkoenkiahaaGreatW.PrintMore
set_option linter.unusedVariables false
set_option linter.unusedSimpArgs false
def wides : List Int := [3, 4, 5, 6, 7, 8]
def bytes_ : List Int := (List.range 256).map Int.ofNat
theorem mem_wides {W : Int} (h0 : 3 ≤ W) (h1 : W ≤ 8) : W ∈ wides := by
 have : W = 3 ∨ W = 4 ∨ W = 5 ∨ W = 6 ∨ W = 7 ∨ W = 8 := by omega
 simpa [wides] using this
theorem mem_bytes {x : Int} (h0 : 0 ≤ x) (h1 : x < 256) : x ∈ bytes_ := by
 refine List.mem_map.2 ⟨x.toNat, List.mem_range.2 (by omega), ?_⟩
 simp [Int.toNat_of_nonneg h0]
def Row (W x : Int) : Prop := 0 ≤ x ∧ x < 2 ^ W.toNat
theorem Row.byte {W x : Int} (h0 : 3 ≤ W) (h1 : W ≤ 8) (h : Row W x) : 0 ≤ x ∧ x < 256 := by
 obtain ⟨a, b⟩ := h
 have : W = 3 ∨ W = 4 ∨ W = 5 ∨ W = 6 ∨ W = 7 ∨ W = 8 := by omega
 rcases this with rfl | rfl | rfl | rfl | rfl | rfl <;> exact ⟨a, Int.lt_of_lt_of_le b (by decide)⟩
theorem masks : ∀ W ∈ wides, wrap64 ((shl .i64 1 W) - 1) = 2 ^ W.toNat - 1 := by decide +kernel
def bit (r j : Int) : Int := Go.bits .and .i64 (shr .i64 r j) 1
def gv (W t kd b : Int) : Int := if kd = 1 then 0 else if kd = 2 then Go.bits .and .i64 (Go.bits .or .i64 t (wrap64 (t * 2))) (wrap64 ((shl .i64 1 W) - 1)) else if kd = 3 then Go.bits .and .i64 t (wrap64 (t * 2)) else if kd = 4 then (if Int.tmod b 2 = 1 then 0 else t) else t
theorem gv_rows : ∀ W ∈ wides, ∀ t ∈ bytes_, t < 2 ^ W.toNat → ∀ kd ∈ ([1, 2, 3, 4] : List Int), ∀ b ∈ ([0, 1, 2, 3, 4, 5, 6, 7] : List Int), (0 ≤ gv W t kd b ∧ gv W t kd b < 2 ^ W.toNat) := by decide +kernel
theorem moved_row : ∀ W ∈ wides, ∀ t ∈ bytes_, t < 2 ^ W.toNat → Go.bits .and .i64 (shr .i64 (shl .i64 t (mx 0 0)) (mx (wrap64 (-0)) 0)) (wrap64 ((shl .i64 1 W) - 1)) = t := by decide +kernel
def ones (r : Int) : Int := (((List.range 20).map fun j => bit r (Int.ofNat j)).foldr (· + ·) 0)
theorem ones_step : ∀ r ∈ bytes_, 0 < r → (0 ≤ Go.bits .and .i64 r (wrap64 (r - 1)) ∧ Go.bits .and .i64 r (wrap64 (r - 1)) < r ∧ ones r = ones (Go.bits .and .i64 r (wrap64 (r - 1))) + 1) := by decide +kernel
theorem ones_le : ∀ r ∈ bytes_, (0 ≤ ones r ∧ ones r ≤ 8) := by decide +kernel
theorem ones_zero : ones 0 = 0 := by decide +kernel
theorem bit_le : ∀ r ∈ bytes_, ∀ j ∈ (List.range 20).map Int.ofNat, (0 ≤ bit r j ∧ bit r j ≤ 1) := by decide +kernel
def ink (r j : Int) : Int := (wrap64 (48 + Go.bits .or .i64 0 (shl .i64 (bit r j) 0))) % 256
theorem ink_bit : ∀ r ∈ bytes_, ∀ j ∈ (List.range 8).map Int.ofNat, (0 ≤ ink r j ∧ ink r j ≤ 255 ∧ ((ink r j == 49) = (bit r j == 1))) := by decide +kernel
end Go.Proofs.YtoacbkoenkiahaaGreat.PTopGluePlate
end
section
namespace Go.Proofs.YtoacbkoenkiahaaGreat.PTopGluePlate
open Go.RowKit Go.Proofs.YtoacbkoenkiahaaGreatW.PrintWords Go.Proofs.YtoacbkoenkiahaaGreatW.PrintLast Go.Proofs.YtoacbkoenkiahaaGreatW.PrintMore
set_option linter.unusedVariables false
set_option linter.unusedSimpArgs false
theorem allIn_one (a b n : Int) : znc.f a b [n] = some (decide (a ≤ n) && decide (n ≤ b)) := by simp [znc.f]
theorem open_glue {W x y z : Int} (h0 : 3 ≤ W) (h1 : W ≤ 8) (hx : Row W x) (hy : Row W y) (hz : Row W z) : glue_open.f W [x, y, z] = some (W, [x, y, z], 0) := by
 have hm := masks W (mem_wides h0 h1)
 obtain ⟨x0, x1⟩ := hx
 obtain ⟨y0, y1⟩ := hy
 obtain ⟨z0, z1⟩ := hz
 unfold glue_open.f
 rw [allIn_one]
 have e1 : (decide ((1 : Int) ≤ W) && decide (W ≤ 16)) = true := by simp; omega
 rw [e1]
 simp only [Option.bind_some, if_true]
 rw [if_neg (by simp), if_neg (by simp), if_pos (by omega), hm]
 have e2 : znc.f 0 (2 ^ W.toNat - 1) [x, y, z] = some true := by
  simp [znc.f]
  omega
 rw [e2]
 rfl
theorem isBox_one {b : Int} (h0 : 0 ≤ b) (h1 : b ≤ 1000) : zzd.f [b] = some true := by
 unfold zzd.f
 rw [allIn_one]
 simp [h0, h1]
def CauseOk (c : S32) : Prop := (0 ≤ c.f0 ∧ c.f0 < 3) ∧ (1 ≤ c.f1 ∧ c.f1 ≤ 4) ∧ (0 ≤ c.f2 ∧ c.f2 < 4)
theorem cause_ok {W x y z : Int} {c : S32} (h : CauseOk c) : glue_plan_isCause.f W [x, y, z] c.f0 c.f1 c.f2 = some true := by
 obtain ⟨⟨a, b⟩, ⟨c1, c2⟩, ⟨d1, d2⟩⟩ := h
 unfold glue_plan_isCause.f zpd.f
 have e : wrap64 ((([x, y, z] : List Int).length : Int) - 1) = 2 := (show wrap64 (((3 : Nat) : Int) - 1) = 2 by decide +kernel)
 have e2 : c.f0 ≤ 2 := by omega
 rw [e, allIn_one, allIn_one, isBox_one d1 (by omega)]
 simp [a, e2, c1, c2]
theorem check_none (k : Nat) (W x y z : Int) : zyc.f (k + 1) W [x, y, z] [] = some 0 := by
 simp [zyc.f, zvc.f, containsO, zyc.l0]
theorem check_one (k : Nat) {W x y z : Int} {c : S32} (h : CauseOk c) : zyc.f (k + 1) W [x, y, z] [c] = some 0 := by
 have e := cause_ok (W := W) (x := x) (y := y) (z := z) h
 simp [zyc.f, zvc.f, containsO, zyc.l0, glue_plan_check_1.f, e]
theorem openState_glue (k : Nat) {W x y z : Int} (s : List S32) (h0 : 3 ≤ W) (h1 : W ≤ 8) (hx : Row W x) (hy : Row W y) (hz : Row W z) (hs : ∀ k, zyc.f (k + 1) W [x, y, z] s = some 0) :
 zqd.f (k + 3) W [x, y, z] [s] = some (W, [x, y, z], 0) := by
 have e1 := hs (k + 1)
 have w1 : wrap64 1 = 1 := by decide +kernel
 simp [zqd.f, open_glue h0 h1 hx hy hz, zqd.l0, rd_L2, e1, w1]
theorem clone_three (x y z : Int) : zlc.f [x, y, z] = some [x, y, z] := by simp [zlc.f]
theorem box_none (k : Nat) (W x y z b : Int) : zfb.f (k + 1) W [x, y, z] [] b = some [x, y, z] := by
 simp [zfb.f, clone_three, zfb.l0]
def boxed (W x y z b : Int) (c : S32) : List Int :=
 if c.f2 ≤ b then (if c.f0 = 0 then [gv W x c.f1 b, y, z] else if c.f0 = 1 then [x, gv W y c.f1 b, z] else [x, y, gv W z c.f1 b]) else [x, y, z]
theorem gives_gv {W : Int} (h0 : 0 ≤ W) (l : List Int) (t kd b : Int) : glue_plan_gives.f W l t kd b = some (gv W t kd b) := by
 unfold glue_plan_gives.f gv
 split
 · rfl
 · split
   · first | rw [if_pos h0] | rfl
   · split
     · rfl
     · split
       · split <;> rfl
       · rfl
theorem box_one (k : Nat) {W x y z b : Int} {c : S32} (hW : 0 ≤ W) (h : CauseOk c) : zfb.f (k + 2) W [x, y, z] [c] b = some (boxed W x y z b c) := by
 obtain ⟨n, kd, fr⟩ := c
 obtain ⟨⟨a0, a1⟩, -, -⟩ := h
 simp only at a0 a1
 have w1 : wrap64 1 = 1 := by decide +kernel
 have hn : n = 0 ∨ n = 1 ∨ n = 2 := by omega
 by_cases hf : fr ≤ b
 · rcases hn with rfl | rfl | rfl <;> simp [zfb.f, clone_three, zfb.l0, zta, rd, boxed, hf, gives_gv hW, w1]
 · simp [zfb.f, clone_three, zfb.l0, zta, boxed, hf, w1]
theorem Box_none (k : Nat) {W x y z b : Int} (h0 : 3 ≤ W) (h1 : W ≤ 8) (hx : Row W x) (hy : Row W y) (hz : Row W z) (b0 : 0 ≤ b) (b1 : b < 8) : zhe.f (k + 4) W [x, y, z] [] b = some ([x, y, z], 0) := by
 simp [zhe.f, openState_glue (k + 1) [] h0 h1 hx hy hz (fun k => check_none k W x y z), isBox_one b0 (by omega), box_none]
theorem Box_one (k : Nat) {W x y z b : Int} {c : S32} (h0 : 3 ≤ W) (h1 : W ≤ 8) (hx : Row W x) (hy : Row W y) (hz : Row W z) (b0 : 0 ≤ b) (b1 : b < 8) (h : CauseOk c) : zhe.f (k + 4) W [x, y, z] [c] b = some (boxed W x y z b c, 0) := by
 simp [zhe.f, openState_glue (k + 1) [c] h0 h1 hx hy hz (fun k => check_one k h), isBox_one b0 (by omega), box_one (k + 2) (b := b) (x := x) (y := y) (z := z) (show (0 : Int) ≤ W by omega) h]
theorem gv_row {W t kd b : Int} (h0 : 3 ≤ W) (h1 : W ≤ 8) (ht : Row W t) (k0 : 1 ≤ kd) (k1 : kd ≤ 4) (b0 : 0 ≤ b) (b1 : b < 8) : Row W (gv W t kd b) := by
 obtain ⟨t0, t1⟩ := ht.byte h0 h1
 refine gv_rows W (mem_wides h0 h1) t (mem_bytes t0 t1) ht.2 kd ?_ b ?_
 · have : kd = 1 ∨ kd = 2 ∨ kd = 3 ∨ kd = 4 := by omega
   simpa using this
 · have : b = 0 ∨ b = 1 ∨ b = 2 ∨ b = 3 ∨ b = 4 ∨ b = 5 ∨ b = 6 ∨ b = 7 := by omega
   simpa using this
theorem boxed_rows {W x y z b : Int} {c : S32} (h0 : 3 ≤ W) (h1 : W ≤ 8) (hx : Row W x) (hy : Row W y) (hz : Row W z) (b0 : 0 ≤ b) (b1 : b < 8) (h : CauseOk c) : ∃ p q r, boxed W x y z b c = [p, q, r] ∧ Row W p ∧ Row W q ∧ Row W r := by
 obtain ⟨-, ⟨k0, k1⟩, -⟩ := h
 unfold boxed
 split
 · split
   · exact ⟨_, _, _, rfl, gv_row h0 h1 hx k0 k1 b0 b1, hy, hz⟩
   · split
     · exact ⟨_, _, _, rfl, hx, gv_row h0 h1 hy k0 k1 b0 b1, hz⟩
     · exact ⟨_, _, _, rfl, hx, hy, gv_row h0 h1 hz k0 k1 b0 b1⟩
 · exact ⟨_, _, _, rfl, hx, hy, hz⟩
end Go.Proofs.YtoacbkoenkiahaaGreat.PTopGluePlate
end
section
namespace Go.Proofs.YtoacbkoenkiahaaGreat.PTopGluePlate
open Go.RowKit Go.Proofs.YtoacbkoenkiahaaGreatW.PrintWords Go.Proofs.YtoacbkoenkiahaaGreatW.PrintLast Go.Proofs.YtoacbkoenkiahaaGreatW.PrintMore
set_option linter.unusedVariables false
set_option linter.unusedSimpArgs false
theorem within_one (a b n : Int) : zxb.f a b [n] = some (decide (a ≤ n) && decide (n ≤ b)) := by simp [zxb.f]
theorem open_plate (k : Nat) {W p q r : Int} (h0 : 3 ≤ W) (h1 : W ≤ 8) (hp : Row W p) (hq : Row W q) (hr : Row W r) : zud.f (k + 2) W 3 [[p, q, r]] = some (W, 3, [[p, q, r]], 0) := by
 have hm := masks W (mem_wides h0 h1)
 obtain ⟨p0, p1⟩ := hp
 obtain ⟨q0, q1⟩ := hq
 obtain ⟨r0, r1⟩ := hr
 have e1 : zxb.f 1 10 [W] = some true := by rw [within_one]; simp; omega
 have e2 : zxb.f 1 6 [3] = some true := by rw [within_one]; rfl
 have e3 : zxb.f 0 (2 ^ W.toNat - 1) [p, q, r] = some true := by simp [zxb.f]; omega
 have e4 : zgd.f [[p, q, r]] W 3 [[p, q, r]] = some false := by
  have hW : (0 : Int) ≤ W := by omega
  simp [zgd.f, containsO, print_open_1.f, hm, e3, hW]
 simp [zud.f, zud.j0, e1, e2, e4]
theorem wrap1 : wrap64 1 = 1 := by decide +kernel
theorem wrap2 : wrap64 2 = 2 := by decide +kernel
theorem wrap3 : wrap64 3 = 3 := by decide +kernel
theorem moved_self (k : Nat) {W p q r : Int} (h0 : 3 ≤ W) (h1 : W ≤ 8) (hp : Row W p) (hq : Row W q) (hr : Row W r) : zjb.f (k + 4) W 3 [[p, q, r]] [p, q, r] 0 0 = some [p, q, r] := by
 have e := fun t (ht : Row W t) => moved_row W (mem_wides h0 h1) t (mem_bytes (ht.byte h0 h1).1 (ht.byte h0 h1).2) ht.2
 have ep := e p hp
 have eq := e q hq
 have er := e r hr
 have hW : (0 : Int) ≤ W := by omega
 have w0 : wrap64 0 = 0 := by decide +kernel
 simp only [w0, show (-0 : Int) = 0 from rfl] at ep eq er
 simp [zjb.f, zjb.l0, List.replicate, rd, hW, wrap1, wrap2, wrap3, w0, ep, eq, er]
def inks (W p : Int) : List Int := (List.range W.toNat).map fun j => ink p (Int.ofNat j)
theorem text_plate (k : Nat) (W p q r : Int) (l : List (List Int)) (hW : W ∈ wides) : zdd.f (k + 60) W 3 l [[p, q, r]] = some [strOfNums (inks W p), strOfNums (inks W q), strOfNums (inks W r)] := by
 simp only [wides, List.mem_cons, List.not_mem_nil, or_false] at hW
 rcases hW with rfl | rfl | rfl | rfl | rfl | rfl <;> kernel_rfl
theorem show_plate (k : Nat) {W p q r : Int} (h0 : 3 ≤ W) (h1 : W ≤ 8) (hp : Row W p) (hq : Row W q) (hr : Row W r) :
 zec.f (k + 70) W 3 [[p, q, r]] [⟨0, 0⟩] = some ([strOfNums (inks W p), strOfNums (inks W q), strOfNums (inks W r)], 0) := by
 have e1 : zyd.f [⟨0, 0⟩] = some false := by decide +kernel
 have e2 := moved_self (k + 65) h0 h1 hp hq hr
 have e3 := text_plate (k + 8) W p q r [[p, q, r]] (mem_wides h0 h1)
 simp [zec.f, open_plate (k + 68) h0 h1 hp hq hr, e1, zec.l0, rd_L3, rd_T45, e2, wrap1, e3]
end Go.Proofs.YtoacbkoenkiahaaGreat.PTopGluePlate
end
section
namespace Go.Proofs.YtoacbkoenkiahaaGreat.PTopGluePlate
open Go.RowKit Go.Proofs.YtoacbkoenkiahaaGreatW.PrintWords Go.Proofs.YtoacbkoenkiahaaGreatW.PrintLast Go.Proofs.YtoacbkoenkiahaaGreatW.PrintMore
set_option linter.unusedVariables false
set_option linter.unusedSimpArgs false
theorem cells_row : ∀ (n : Nat) (r : Int), r = (n : Int) → r < 256 → ∀ (k : Nat) (c : Int) (l : List Int) (m i : Int), 0 ≤ c → c + ones r ≤ 1000 →
 zub.l1 (k + (ones r).toNat + 1) c r l m i = zub.l0 k (c + ones r) l m (wrap64 (i + 1)) := by
 intro n
 induction n using Nat.strongRecOn with
 | _ n ih =>
  intro r hn hr k c l m i c0 c1
  by_cases hz : r = 0
  · subst hz
    rw [ones_zero]
    simp [zub.l1]
  · have hb := mem_bytes (x := r) (by omega) hr
    obtain ⟨s0, s1, s2⟩ := ones_step r hb (by omega)
    obtain ⟨o0, o1⟩ := ones_le r hb
    have hb' := mem_bytes s0 (by omega)
    obtain ⟨o0', o1'⟩ := ones_le _ hb'
    have hk : k + (ones r).toNat + 1 = (k + (ones (Go.bits .and .i64 r (wrap64 (r - 1)))).toNat + 1) + 1 := by omega
    rw [hk, zub.l1, if_pos (by omega), IntWalk.wrap64_in (c + 1) ⟨by omega, by omega⟩,
     ih (Go.bits .and .i64 r (wrap64 (r - 1))).toNat (by omega) _ (by omega) (by omega) k (c + 1) l m i (by omega) (by omega)]
    rw [show c + 1 + ones (Go.bits .and .i64 r (wrap64 (r - 1))) = c + ones r by omega]
theorem cells_plate (k : Nat) {p q r : Int} (hp : 0 ≤ p ∧ p < 256) (hq : 0 ≤ q ∧ q < 256) (hr : 0 ≤ r ∧ r < 256) : zub.f (k + 40) [p, q, r] = some (ones p + ones q + ones r) := by
 obtain ⟨p0, p1⟩ := ones_le p (mem_bytes hp.1 hp.2)
 obtain ⟨q0, q1⟩ := ones_le q (mem_bytes hq.1 hq.2)
 obtain ⟨r0, r1⟩ := ones_le r (mem_bytes hr.1 hr.2)
 unfold zub.f
 have e1 : k + 40 = ((((((k + 40 - 7 - (ones p).toNat - (ones q).toNat - (ones r).toNat) + 1) + (ones r).toNat + 1) + 1) + (ones q).toNat + 1) + 1) + (ones p).toNat + 1 + 1 := by omega
 rw [e1]
 generalize k + 40 - 7 - (ones p).toNat - (ones q).toNat - (ones r).toNat = K
 have l3 : (([p, q, r] : List Int).length : Int) = 3 := rfl
 rw [zub.l0, l3, if_pos (by omega), if_pos (by omega), if_pos (by omega), show rd [p, q, r] 0 = p from rfl, cells_row p.toNat p (by omega) hp.2 _ 0 _ _ _ (by omega) (by omega), Int.zero_add 1, wrap1]
 rw [zub.l0, l3, if_pos (by omega), if_pos (by omega), if_pos (by omega), show rd [p, q, r] 1 = q from rfl, cells_row q.toNat q (by omega) hq.2 _ _ _ _ _ (by omega) (by omega), show (1 : Int) + 1 = 2 from rfl, wrap2]
 rw [zub.l0, l3, if_pos (by omega), if_pos (by omega), if_pos (by omega), show rd [p, q, r] 2 = r from rfl, cells_row r.toNat r (by omega) hr.2 _ _ _ _ _ (by omega) (by omega), show (2 : Int) + 1 = 3 from rfl, wrap3]
 rw [zub.l0, if_neg (by omega), Int.zero_add]
theorem ones_at (k : Nat) (l : List Int) (c i : Int) (hi : 0 ≤ i) (hl : i < (l.length : Int)) (hr : 0 ≤ rd l i ∧ rd l i < 256) (c0 : 0 ≤ c) (c1 : c ≤ 1000) :
 zoa.l1 (k + 21) l c i 0 = zoa.l0 k l (c + ones (rd l i)) (wrap64 (i + 1)) := by
 have hb := mem_bytes hr.1 hr.2
 have B := fun (j : Int) (h : j ∈ (List.range 20).map Int.ofNat) => bit_le (rd l i) hb j h
 have S : ∀ (j : Int), j ∈ (List.range 20).map Int.ofNat → ∀ (K : Nat) (C : Int), 0 ≤ C → C ≤ 2000 → zoa.l1 (K + 1) l C i j = zoa.l1 K l (C + bit (rd l i) j) i (wrap64 (j + 1)) := by
  intro j hj K C C0 C1
  obtain ⟨b0, b1⟩ := B j hj
  have hj' : ∃ a : Nat, a < 20 ∧ j = (a : Int) := by
   obtain ⟨a, ha, e⟩ := List.mem_map.1 hj
   exact ⟨a, List.mem_range.1 ha, e.symm⟩
  obtain ⟨a, ha, rfl⟩ := hj'
  have hw : IntKind.u64.wrap (a : Int) = (a : Int) := IntWalk.u64_in _ ⟨by omega, by omega⟩
  have e : Go.bits .and .i64 (shr .i64 (rd l i) (a : Int)) 1 = bit (rd l i) (a : Int) := rfl
  rw [zoa.l1, if_pos (by omega), if_pos hi, if_pos hl, hw, if_pos (by omega), e, IntWalk.wrap64_in _ ⟨by omega, by omega⟩]
 obtain ⟨l0, u0⟩ := B 0 (by decide)
 obtain ⟨l1, u1⟩ := B 1 (by decide)
 obtain ⟨l2, u2⟩ := B 2 (by decide)
 obtain ⟨l3, u3⟩ := B 3 (by decide)
 obtain ⟨l4, u4⟩ := B 4 (by decide)
 obtain ⟨l5, u5⟩ := B 5 (by decide)
 obtain ⟨l6, u6⟩ := B 6 (by decide)
 obtain ⟨l7, u7⟩ := B 7 (by decide)
 obtain ⟨l8, u8⟩ := B 8 (by decide)
 obtain ⟨l9, u9⟩ := B 9 (by decide)
 obtain ⟨l10, u10⟩ := B 10 (by decide)
 obtain ⟨l11, u11⟩ := B 11 (by decide)
 obtain ⟨l12, u12⟩ := B 12 (by decide)
 obtain ⟨l13, u13⟩ := B 13 (by decide)
 obtain ⟨l14, u14⟩ := B 14 (by decide)
 obtain ⟨l15, u15⟩ := B 15 (by decide)
 obtain ⟨l16, u16⟩ := B 16 (by decide)
 obtain ⟨l17, u17⟩ := B 17 (by decide)
 obtain ⟨l18, u18⟩ := B 18 (by decide)
 obtain ⟨l19, u19⟩ := B 19 (by decide)
 rw [show k + 21 = (k + 20) + 1 from rfl, S 0 (by decide) _ (c) (by omega) (by omega), show wrap64 ((0 : Int) + 1) = 1 by decide +kernel]
 rw [show k + 20 = (k + 19) + 1 from rfl, S 1 (by decide) _ (c + bit (rd l i) 0) (by omega) (by omega), show wrap64 ((1 : Int) + 1) = 2 by decide +kernel]
 rw [show k + 19 = (k + 18) + 1 from rfl, S 2 (by decide) _ (c + bit (rd l i) 0 + bit (rd l i) 1) (by omega) (by omega), show wrap64 ((2 : Int) + 1) = 3 by decide +kernel]
 rw [show k + 18 = (k + 17) + 1 from rfl, S 3 (by decide) _ (c + bit (rd l i) 0 + bit (rd l i) 1 + bit (rd l i) 2) (by omega) (by omega), show wrap64 ((3 : Int) + 1) = 4 by decide +kernel]
 rw [show k + 17 = (k + 16) + 1 from rfl, S 4 (by decide) _ (c + bit (rd l i) 0 + bit (rd l i) 1 + bit (rd l i) 2 + bit (rd l i) 3) (by omega) (by omega), show wrap64 ((4 : Int) + 1) = 5 by decide +kernel]
 rw [show k + 16 = (k + 15) + 1 from rfl, S 5 (by decide) _ (c + bit (rd l i) 0 + bit (rd l i) 1 + bit (rd l i) 2 + bit (rd l i) 3 + bit (rd l i) 4) (by omega) (by omega), show wrap64 ((5 : Int) + 1) = 6 by decide +kernel]
 rw [show k + 15 = (k + 14) + 1 from rfl, S 6 (by decide) _ (c + bit (rd l i) 0 + bit (rd l i) 1 + bit (rd l i) 2 + bit (rd l i) 3 + bit (rd l i) 4 + bit (rd l i) 5) (by omega) (by omega), show wrap64 ((6 : Int) + 1) = 7 by decide +kernel]
 rw [show k + 14 = (k + 13) + 1 from rfl, S 7 (by decide) _ (c + bit (rd l i) 0 + bit (rd l i) 1 + bit (rd l i) 2 + bit (rd l i) 3 + bit (rd l i) 4 + bit (rd l i) 5 + bit (rd l i) 6) (by omega) (by omega), show wrap64 ((7 : Int) + 1) = 8 by decide +kernel]
 rw [show k + 13 = (k + 12) + 1 from rfl, S 8 (by decide) _ (c + bit (rd l i) 0 + bit (rd l i) 1 + bit (rd l i) 2 + bit (rd l i) 3 + bit (rd l i) 4 + bit (rd l i) 5 + bit (rd l i) 6 + bit (rd l i) 7) (by omega) (by omega), show wrap64 ((8 : Int) + 1) = 9 by decide +kernel]
 rw [show k + 12 = (k + 11) + 1 from rfl, S 9 (by decide) _ (c + bit (rd l i) 0 + bit (rd l i) 1 + bit (rd l i) 2 + bit (rd l i) 3 + bit (rd l i) 4 + bit (rd l i) 5 + bit (rd l i) 6 + bit (rd l i) 7 + bit (rd l i) 8) (by omega) (by omega), show wrap64 ((9 : Int) + 1) = 10 by decide +kernel]
 rw [show k + 11 = (k + 10) + 1 from rfl, S 10 (by decide) _ (c + bit (rd l i) 0 + bit (rd l i) 1 + bit (rd l i) 2 + bit (rd l i) 3 + bit (rd l i) 4 + bit (rd l i) 5 + bit (rd l i) 6 + bit (rd l i) 7 + bit (rd l i) 8 + bit (rd l i) 9) (by omega) (by omega), show wrap64 ((10 : Int) + 1) = 11 by decide +kernel]
 rw [show k + 10 = (k + 9) + 1 from rfl, S 11 (by decide) _ (c + bit (rd l i) 0 + bit (rd l i) 1 + bit (rd l i) 2 + bit (rd l i) 3 + bit (rd l i) 4 + bit (rd l i) 5 + bit (rd l i) 6 + bit (rd l i) 7 + bit (rd l i) 8 + bit (rd l i) 9 + bit (rd l i) 10) (by omega) (by omega), show wrap64 ((11 : Int) + 1) = 12 by decide +kernel]
 rw [show k + 9 = (k + 8) + 1 from rfl, S 12 (by decide) _ (c + bit (rd l i) 0 + bit (rd l i) 1 + bit (rd l i) 2 + bit (rd l i) 3 + bit (rd l i) 4 + bit (rd l i) 5 + bit (rd l i) 6 + bit (rd l i) 7 + bit (rd l i) 8 + bit (rd l i) 9 + bit (rd l i) 10 + bit (rd l i) 11) (by omega) (by omega), show wrap64 ((12 : Int) + 1) = 13 by decide +kernel]
 rw [show k + 8 = (k + 7) + 1 from rfl, S 13 (by decide) _ (c + bit (rd l i) 0 + bit (rd l i) 1 + bit (rd l i) 2 + bit (rd l i) 3 + bit (rd l i) 4 + bit (rd l i) 5 + bit (rd l i) 6 + bit (rd l i) 7 + bit (rd l i) 8 + bit (rd l i) 9 + bit (rd l i) 10 + bit (rd l i) 11 + bit (rd l i) 12) (by omega) (by omega), show wrap64 ((13 : Int) + 1) = 14 by decide +kernel]
 rw [show k + 7 = (k + 6) + 1 from rfl, S 14 (by decide) _ (c + bit (rd l i) 0 + bit (rd l i) 1 + bit (rd l i) 2 + bit (rd l i) 3 + bit (rd l i) 4 + bit (rd l i) 5 + bit (rd l i) 6 + bit (rd l i) 7 + bit (rd l i) 8 + bit (rd l i) 9 + bit (rd l i) 10 + bit (rd l i) 11 + bit (rd l i) 12 + bit (rd l i) 13) (by omega) (by omega), show wrap64 ((14 : Int) + 1) = 15 by decide +kernel]
 rw [show k + 6 = (k + 5) + 1 from rfl, S 15 (by decide) _ (c + bit (rd l i) 0 + bit (rd l i) 1 + bit (rd l i) 2 + bit (rd l i) 3 + bit (rd l i) 4 + bit (rd l i) 5 + bit (rd l i) 6 + bit (rd l i) 7 + bit (rd l i) 8 + bit (rd l i) 9 + bit (rd l i) 10 + bit (rd l i) 11 + bit (rd l i) 12 + bit (rd l i) 13 + bit (rd l i) 14) (by omega) (by omega), show wrap64 ((15 : Int) + 1) = 16 by decide +kernel]
 rw [show k + 5 = (k + 4) + 1 from rfl, S 16 (by decide) _ (c + bit (rd l i) 0 + bit (rd l i) 1 + bit (rd l i) 2 + bit (rd l i) 3 + bit (rd l i) 4 + bit (rd l i) 5 + bit (rd l i) 6 + bit (rd l i) 7 + bit (rd l i) 8 + bit (rd l i) 9 + bit (rd l i) 10 + bit (rd l i) 11 + bit (rd l i) 12 + bit (rd l i) 13 + bit (rd l i) 14 + bit (rd l i) 15) (by omega) (by omega), show wrap64 ((16 : Int) + 1) = 17 by decide +kernel]
 rw [show k + 4 = (k + 3) + 1 from rfl, S 17 (by decide) _ (c + bit (rd l i) 0 + bit (rd l i) 1 + bit (rd l i) 2 + bit (rd l i) 3 + bit (rd l i) 4 + bit (rd l i) 5 + bit (rd l i) 6 + bit (rd l i) 7 + bit (rd l i) 8 + bit (rd l i) 9 + bit (rd l i) 10 + bit (rd l i) 11 + bit (rd l i) 12 + bit (rd l i) 13 + bit (rd l i) 14 + bit (rd l i) 15 + bit (rd l i) 16) (by omega) (by omega), show wrap64 ((17 : Int) + 1) = 18 by decide +kernel]
 rw [show k + 3 = (k + 2) + 1 from rfl, S 18 (by decide) _ (c + bit (rd l i) 0 + bit (rd l i) 1 + bit (rd l i) 2 + bit (rd l i) 3 + bit (rd l i) 4 + bit (rd l i) 5 + bit (rd l i) 6 + bit (rd l i) 7 + bit (rd l i) 8 + bit (rd l i) 9 + bit (rd l i) 10 + bit (rd l i) 11 + bit (rd l i) 12 + bit (rd l i) 13 + bit (rd l i) 14 + bit (rd l i) 15 + bit (rd l i) 16 + bit (rd l i) 17) (by omega) (by omega), show wrap64 ((18 : Int) + 1) = 19 by decide +kernel]
 rw [show k + 2 = (k + 1) + 1 from rfl, S 19 (by decide) _ (c + bit (rd l i) 0 + bit (rd l i) 1 + bit (rd l i) 2 + bit (rd l i) 3 + bit (rd l i) 4 + bit (rd l i) 5 + bit (rd l i) 6 + bit (rd l i) 7 + bit (rd l i) 8 + bit (rd l i) 9 + bit (rd l i) 10 + bit (rd l i) 11 + bit (rd l i) 12 + bit (rd l i) 13 + bit (rd l i) 14 + bit (rd l i) 15 + bit (rd l i) 16 + bit (rd l i) 17 + bit (rd l i) 18) (by omega) (by omega), show wrap64 ((19 : Int) + 1) = 20 by decide +kernel]
 rw [zoa.l1, if_neg (by omega)]
 have e : c + bit (rd l i) 0 + bit (rd l i) 1 + bit (rd l i) 2 + bit (rd l i) 3 + bit (rd l i) 4 + bit (rd l i) 5 + bit (rd l i) 6 + bit (rd l i) 7 + bit (rd l i) 8 + bit (rd l i) 9 + bit (rd l i) 10 + bit (rd l i) 11 + bit (rd l i) 12 + bit (rd l i) 13 + bit (rd l i) 14 + bit (rd l i) 15 + bit (rd l i) 16 + bit (rd l i) 17 + bit (rd l i) 18 + bit (rd l i) 19 = c + ones (rd l i) := by
  simp only [ones, List.range, List.range.loop, List.map_cons, List.map_nil, List.foldr_cons, List.foldr_nil]
  simp only [Int.ofNat_eq_natCast, Int.cast_ofNat_Int, Int.natCast_zero, Int.natCast_one]
  omega
 rw [e]
theorem ones_plate (k : Nat) {p q r : Int} (hp : 0 ≤ p ∧ p < 256) (hq : 0 ≤ q ∧ q < 256) (hr : 0 ≤ r ∧ r < 256) : zoa.f (k + 67) [p, q, r] = some (ones p + ones q + ones r) := by
 obtain ⟨p0, p1⟩ := ones_le p (mem_bytes hp.1 hp.2)
 obtain ⟨q0, q1⟩ := ones_le q (mem_bytes hq.1 hq.2)
 obtain ⟨r0, r1⟩ := ones_le r (mem_bytes hr.1 hr.2)
 unfold zoa.f
 have l3 : (([p, q, r] : List Int).length : Int) = 3 := rfl
 rw [show k + 67 = ((((((k + 1) + 21) + 1) + 21) + 1) + 21) + 1 from rfl]
 rw [zoa.l0, l3, if_pos (by omega), ones_at _ [p, q, r] 0 0 (by omega) (by rw [l3]; omega) hp (by omega) (by omega), show rd [p, q, r] 0 = p from rfl, Int.zero_add 1, wrap1]
 rw [zoa.l0, l3, if_pos (by omega), ones_at _ [p, q, r] _ 1 (by omega) (by rw [l3]; omega) hq (by omega) (by omega), show rd [p, q, r] 1 = q from rfl, show (1 : Int) + 1 = 2 from rfl, wrap2]
 rw [zoa.l0, l3, if_pos (by omega), ones_at _ [p, q, r] _ 2 (by omega) (by rw [l3]; omega) hr (by omega) (by omega), show rd [p, q, r] 2 = r from rfl, show (2 : Int) + 1 = 3 from rfl, wrap3]
 rw [zoa.l0, if_neg (by omega), Int.zero_add]
end Go.Proofs.YtoacbkoenkiahaaGreat.PTopGluePlate
end
section
namespace Go.Proofs.YtoacbkoenkiahaaGreat.PTopGluePlate
open Go.RowKit Go.Proofs.YtoacbkoenkiahaaGreatW.PrintWords Go.Proofs.YtoacbkoenkiahaaGreatW.PrintLast Go.Proofs.YtoacbkoenkiahaaGreatW.PrintMore
set_option linter.unusedVariables false
set_option linter.unusedSimpArgs false
def causesOf (fr : Int) : List S32 := ([0, 1, 2] : List Int).flatMap fun n => ([1, 2, 3, 4] : List Int).map fun kd => ⟨n, kd, fr⟩
def pairsOf : List S32 → List (List S32)
 | [] => []
 | a :: l => ((l.filter fun b => decide (a.f0 < b.f0)).map fun b => [a, b]) ++ pairsOf l
def statesOf (fr : Int) : List (List S32) := (([] : List S32) :: (causesOf fr).map fun c => [c]) ++ pairsOf (causesOf fr)
theorem states_eq (k : Nat) (W x y z fr : Int) : zhb.f (k + 200) W [x, y, z] [fr] = some (statesOf fr) := by kernel_rfl
def StateOk (s : List S32) : Prop := s.length ≤ 2 ∧ ∀ c ∈ s, 0 ≤ c.f0 ∧ c.f0 < 3
def stateB (s : List S32) : Bool := decide (s.length ≤ 2) && s.all fun c => decide (0 ≤ c.f0) && decide (c.f0 < 3)
theorem statesB (fr : Int) : (statesOf fr).all stateB = true := by kernel_rfl
theorem states_ok {fr : Int} {s : List S32} (h : s ∈ statesOf fr) : StateOk s := by
 have h1 := List.all_eq_true.1 (statesB fr) s h
 simp only [stateB, Bool.and_eq_true, decide_eq_true_eq, List.all_eq_true] at h1
 exact h1
theorem box_total {W b : Int} {rows : List Int} (hW : 0 ≤ W) (s : List S32) (hs : ∀ c ∈ s, 0 ≤ c.f0 ∧ c.f0 < 3) (hl : s.length ≤ 2) : ∀ (n j : Nat), j + n = s.length → ∀ (k : Nat) (t : List Int), t.length = 3 →
 ∃ t', zfb.l0 (k + n + 1) b t s (s.length : Int) (j : Int) W rows = some t' ∧ t'.length = 3 := by
 intro n
 induction n with
 | zero =>
  intro j hj k t ht
  rw [zfb.l0, if_neg (by omega)]
  exact ⟨t, rfl, ht⟩
 | succ n ih =>
  intro j hj k t ht
  have hjl : j < s.length := by omega
  have hrd : zta s (j : Int) = s[j] := by simp [zta, List.getD_eq_getElem?_getD, List.getElem?_eq_getElem hjl]
  obtain ⟨f0, f1⟩ := hs s[j] (List.getElem_mem hjl)
  have hw : wrap64 ((j : Int) + 1) = ((j + 1 : Nat) : Int) := by rw [IntWalk.wrap64_in _ ⟨by omega, by omega⟩]; omega
  rw [show k + (n + 1) + 1 = (k + n + 1) + 1 by omega, zfb.l0, if_pos (by omega), if_pos (by omega), if_pos (by omega), hrd, hw]
  split
  · first | rw [if_pos f0, if_pos (by omega), gives_gv hW] | rw [if_pos (by omega), gives_gv hW]
    exact ih (j + 1) (by omega) k _ (by simpa using ht)
  · exact ih (j + 1) (by omega) k t ht
theorem has_total (k : Nat) {W x y z b n j : Int} {s : List S32} (hW : 0 ≤ W) (hs : StateOk s) (n0 : 0 ≤ n) (n1 : n < 3) (j0 : 0 ≤ j) : ∃ v, zde.f (k + 3) W [x, y, z] s b n j = some v := by
 obtain ⟨t, ht, hl⟩ := box_total (W := W) (b := b) (rows := [x, y, z]) hW s hs.2 hs.1 s.length 0 (by omega) (k + 2 - s.length) [x, y, z] rfl
 have hk : k + 2 - s.length + s.length + 1 = k + 3 := by have := hs.1; omega
 rw [hk] at ht
 have e : zfb.f (k + 3) W [x, y, z] s b = some t := by
  unfold zfb.f
  rw [clone_three]
  exact ht
 unfold zde.f
 rw [e]
 simp only [Option.bind_some]
 rw [if_pos n0, if_pos (by omega), if_pos j0]
 exact ⟨_, rfl⟩
def LookOk (W b : Int) (o : S59) : Prop := o.f0 = b ∧ (0 ≤ o.f1 ∧ o.f1 < 3) ∧ (0 ≤ o.f2 ∧ o.f2 < W)
theorem one_total (k : Nat) {W x y z b : Int} {s : List S32} {o : S59} (hW : 0 ≤ W) (hs : StateOk s) (ho : LookOk W b o) : ∃ v, zoc.f (k + 3) o.f0 o.f1 o.f2 o.f3 W [x, y, z] s = some v := by
 obtain ⟨v, hv⟩ := has_total (x := x) (y := y) (z := z) (b := o.f0) k hW hs ho.2.1.1 ho.2.1.2 ho.2.2.1
 unfold zoc.f
 rw [hv]
 exact ⟨_, rfl⟩
def struck (k : Nat) (W x y z : Int) (looks : List S59) (s : List S32) : Bool := looks.any fun o => (zoc.f k o.f0 o.f1 o.f2 o.f3 W [x, y, z] s).getD false
theorem struck_eq (k : Nat) {W x y z b : Int} {s : List S32} {looks : List S59} (hW : 0 ≤ W) (hs : StateOk s) (ho : ∀ o ∈ looks, LookOk W b o) : glue_explained_1.f (k + 3) s looks W [x, y, z] = some (struck (k + 3) W x y z looks s) := by
 unfold glue_explained_1.f zvd.f
 rw [containsO_total _ (fun o => (zoc.f (k + 3) o.f0 o.f1 o.f2 o.f3 W [x, y, z] s).getD false) looks (fun o hm => by
  obtain ⟨v, hv⟩ := one_total (x := x) (y := y) (z := z) (b := b) k hW hs (ho o hm)
  rw [hv]
  rfl)]
 rfl
theorem not_struck (k : Nat) {W x y z b : Int} {c : S32} {looks : List S59} (hW : 0 ≤ W) (hc : CauseOk c) (ho : ∀ o ∈ looks, LookOk W b o) (hg : ∀ o ∈ looks, (bit (rd (boxed W x y z b c) o.f1) o.f2 == 1) = o.f3) : struck (k + 3) W x y z looks [c] = false := by
 unfold struck
 rw [List.any_eq_false]
 intro o hm
 obtain ⟨e0, ⟨n0, n1⟩, ⟨j0, j1⟩⟩ := ho o hm
 have hlen : ((boxed W x y z b c).length : Int) = 3 := by
  unfold boxed
  split
  · split
    · rfl
    · split <;> rfl
  · rfl
 have e : zoc.f (k + 3) o.f0 o.f1 o.f2 o.f3 W [x, y, z] [c] = some false := by
  unfold zoc.f zde.f
  rw [e0, box_one (k + 1) hW hc]
  simp only [Option.bind_some]
  rw [if_pos n0, if_pos (by omega), if_pos j0]
  have hb := hg o hm
  simp only [Option.bind_some]
  show some ((bit (rd (boxed W x y z b c) o.f1) o.f2 == 1) != o.f3) = some false
  rw [hb]
  simp
 rw [e]
 simp
theorem checkLooks_ok (k : Nat) {W x y z fr b : Int} {looks : List S59} (h0 : 3 ≤ W) (h1 : W ≤ 8) (f0 : 0 ≤ fr) (f1 : fr < 4) (b0 : 0 ≤ b) (b1 : b < 8) (ho : ∀ o ∈ looks, LookOk W b o) (hl : looks.length ≤ 40) :
 zua.f (k + 5) W [x, y, z] [fr] looks = some 0 := by
 have s1 : zvb.f (k + 5) [fr] = some true := by
  have w0 : wrap64 0 = 0 := by decide +kernel
  simp [zvb.f, zvb.l0, w0]
 have s2 : zlc.f [fr] = some [fr] := by simp [zlc.f]
 have s3 : zwb.f (k + 5) [fr] = some [fr] := by simp [zwb.f]
 have s4 : ¬ ((looks.length : Int) > 40) := by omega
 have s5 : zad.f looks W [x, y, z] = some false := by
  unfold zad.f
  rw [containsO_total _ (fun _ => false) looks (fun o hm => by
   obtain ⟨e0, ⟨n0, n1⟩, ⟨j0, j1⟩⟩ := ho o hm
   have e : wrap64 ((([x, y, z] : List Int).length : Int) - 1) = 2 := (show wrap64 (((3 : Nat) : Int) - 1) = 2 by decide +kernel)
   have e2 : wrap64 (W - 1) = W - 1 := IntWalk.wrap64_in _ ⟨by omega, by omega⟩
   have n2 : o.f1 ≤ 2 := by omega
   have j2 : o.f2 ≤ W - 1 := by omega
   unfold glue_plan_checkLooks_1.f zpd.f
   rw [e0, isBox_one b0 (by omega), e, e2, allIn_one, allIn_one]
   simp [n0, n2, j0, j2])]
  simp
 simp [zua.f, s1, s2, s3, zua.j0, zua.j1, zua.j2, s4, isBox_one f0 (show fr ≤ 1000 by omega), s5]
theorem explain_ok (k : Nat) {W x y z b : Int} {c : S32} {looks : List S59} (h0 : 3 ≤ W) (h1 : W ≤ 8) (hx : Row W x) (hy : Row W y) (hz : Row W z) (hc : CauseOk c) (b0 : 0 ≤ b) (b1 : b < 8) (ho : ∀ o ∈ looks, LookOk W b o) (hl : looks.length ≤ 40)
 (hg : ∀ o ∈ looks, (bit (rd (boxed W x y z b c) o.f1) o.f2 == 1) = o.f3) : ∃ many first, glue_Explain.f (k + 200) W [x, y, z] [c.f2] looks = some (many, first, 0) ∧ many ≥ 1 ∧ (first.length : Int) ≤ 1 := by
 have hW : (0 : Int) ≤ W := by omega
 have hf := filterO_total (fun s => glue_explained_1.f (k + 200) s looks W [x, y, z]) (struck (k + 200) W x y z looks) (statesOf c.f2) (fun s hs => struck_eq (b := b) (k + 197) hW (states_ok hs) ho)
 have hns := not_struck (k + 197) hW hc ho hg
 have hA : [c] ∈ (([] : List S32) :: (causesOf c.f2).map fun c => [c]) := by
  obtain ⟨n, kd, fr⟩ := c
  obtain ⟨⟨a0, a1⟩, ⟨k0, k1⟩, -⟩ := hc
  simp only at a0 a1 k0 k1
  refine List.mem_cons_of_mem _ (List.mem_map.2 ⟨_, ?_, rfl⟩)
  refine List.mem_flatMap.2 ⟨n, ?_, List.mem_map.2 ⟨kd, ?_, rfl⟩⟩
  · have : n = 0 ∨ n = 1 ∨ n = 2 := by omega
    simpa using this
  · have : kd = 1 ∨ kd = 2 ∨ kd = 3 ∨ kd = 4 := by omega
    simpa using this
 have hlen : ∀ s ∈ (([] : List S32) :: (causesOf c.f2).map fun c => [c]), s.length ≤ 1 := by
  intro s hs
  rcases List.mem_cons.1 hs with rfl | hs
  · simp
  · obtain ⟨d, _, rfl⟩ := List.mem_map.1 hs
    simp
 obtain ⟨f, rest, hfr, hfm⟩ : ∃ f rest, (statesOf c.f2).filter (fun s => !struck (k + 200) W x y z looks s) = f :: rest ∧ f.length ≤ 1 := by
  unfold statesOf
  rw [List.filter_append]
  generalize (([] : List S32) :: (causesOf c.f2).map fun c => [c]) = A at hA hlen
  cases hF : A.filter (fun s => !struck (k + 200) W x y z looks s) with
  | nil =>
   have := List.filter_eq_nil_iff.1 hF [c] hA
   rw [hns] at this
   exact absurd rfl this
  | cons f rest =>
   have hm : f ∈ A.filter (fun s => !struck (k + 200) W x y z looks s) := by rw [hF]; exact List.mem_cons_self
   exact ⟨f, _, rfl, hlen f (List.mem_filter.1 hm).1⟩
 rw [hfr] at hf
 have hst : zac.f (k + 200) W [x, y, z] [c.f2] looks W [x, y, z] = some (f :: rest) := by
  unfold zac.f
  rw [states_eq]
  exact hf
 have hex : glue_explained.f (k + 200) W [x, y, z] [c.f2] looks = some (W, [x, y, z], f :: rest, 0) := by
  have hcl := checkLooks_ok (x := x) (y := y) (z := z) (k + 195) h0 h1 hc.2.2.1 hc.2.2.2 b0 b1 ho hl
  have hne : ¬ (((f :: rest).length : Int) = 0) := by simp only [List.length_cons]; omega
  simp only [glue_explained.f, open_glue h0 h1 hx hy hz, Option.bind_some, if_true, hcl, hst]
  rw [if_neg hne]
 refine ⟨((f :: rest).length : Int), f, ?_, by simp only [List.length_cons]; omega, by omega⟩
 unfold glue_Explain.f
 rw [hex]
 simp only [Option.bind_some, if_true]
 rw [if_pos (by simp only [List.length_cons]; omega)]
 rfl
end Go.Proofs.YtoacbkoenkiahaaGreat.PTopGluePlate
end
section
namespace Go.Proofs.YtoacbkoenkiahaaGreat.PTopGluePlate
open Go.RowKit Go.Proofs.YtoacbkoenkiahaaGreatW.PrintWords Go.Proofs.YtoacbkoenkiahaaGreatW.PrintLast Go.Proofs.YtoacbkoenkiahaaGreatW.PrintMore
set_option linter.unusedVariables false
set_option linter.unusedSimpArgs false
theorem min_one (k : Nat) (n : Int) : zbd.f (k + 1) [n] = some n := by simp [zbd.f, zbd.l0, rd]
theorem max_one (k : Nat) (n : Int) : zcd.f (k + 1) [n] = some n := by simp [zcd.f, zcd.l0, rd]
theorem openRooms_plate (k : Nat) {W p q r : Int} (h0 : 3 ≤ W) (h1 : W ≤ 8) (hp : Row W p) (hq : Row W q) (hr : Row W r) : print_openRooms.f (k + 2) W 3 [[p, q, r]] [⟨⟨0, 0⟩, ⟨0, 0⟩⟩] = some (W, 3, [[p, q, r]], 0) := by
 have e1 : zmd.f [⟨⟨0, 0⟩, ⟨0, 0⟩⟩] = some false := by decide +kernel
 simp [print_openRooms.f, open_plate k h0 h1 hp hq hr, e1]
theorem ink_plate (k : Nat) {W p q r : Int} (h0 : 3 ≤ W) (h1 : W ≤ 8) (hp : Row W p) (hq : Row W q) (hr : Row W r) :
 zuc.f (k + 50) W 3 [[p, q, r]] [⟨⟨0, 0⟩, ⟨0, 0⟩⟩] 1 = some ([⟨ones p + ones q + ones r, ones p + ones q + ones r⟩], 0) := by
 have e1 : zxb.f 0 100000 [1] = some true := by rw [within_one]; rfl
 have e2 := moved_self (k + 46) h0 h1 hp hq hr
 have e3 := cells_plate (k + 10) (hp.byte h0 h1) (hq.byte h0 h1) (hr.byte h0 h1)
 obtain ⟨p0, p1⟩ := ones_le p (mem_bytes (hp.byte h0 h1).1 (hp.byte h0 h1).2)
 obtain ⟨q0, q1⟩ := ones_le q (mem_bytes (hq.byte h0 h1).1 (hq.byte h0 h1).2)
 obtain ⟨r0, r1⟩ := ones_le r (mem_bytes (hr.byte h0 h1).1 (hr.byte h0 h1).2)
 have hw : wrap64 (ones p + ones q + ones r) = ones p + ones q + ones r := IntWalk.wrap64_in _ ⟨by omega, by omega⟩
 simp [zuc.f, openRooms_plate (k + 48) h0 h1 hp hq hr, e1, zuc.one, e2, e3, min_one (k + 49), max_one (k + 49), hw]
theorem glue_closed (k : Nat) : zfe.f (k + 300) = some true := by kernel_rfl
theorem print_closed (k : Nat) : testlinertop_pubPrint.f (k + 300) = some true := by kernel_rfl
end Go.Proofs.YtoacbkoenkiahaaGreat.PTopGluePlate
end
section
namespace Go.Proofs.YtoacbkoenkiahaaGreat.PTopGluePlate
open Go.RowKit Go.Proofs.YtoacbkoenkiahaaGreatW.PrintWords Go.Proofs.YtoacbkoenkiahaaGreatW.PrintLast Go.Proofs.YtoacbkoenkiahaaGreatW.PrintMore
set_option linter.unusedVariables false
set_option linter.unusedSimpArgs false
def looksOf (W b p q r : Int) : List S59 := ([0, 1, 2] : List Int).flatMap fun y => (List.range W.toNat).map fun j => ⟨b, y, Int.ofNat j, ink (rd [p, q, r] y) (Int.ofNat j) == 49⟩
theorem looks_ok {W b p q r : Int} (h0 : 3 ≤ W) : ∀ o ∈ looksOf W b p q r, LookOk W b o := by
 intro o ho
 obtain ⟨y, hy, ho⟩ := List.mem_flatMap.1 ho
 obtain ⟨j, hj, rfl⟩ := List.mem_map.1 ho
 have hj := List.mem_range.1 hj
 have hy : y = 0 ∨ y = 1 ∨ y = 2 := by simpa using hy
 refine ⟨rfl, ?_, ?_, ?_⟩
 · simp only
   omega
 · simp
 · simp only [Int.ofNat_eq_natCast]
   omega
theorem looks_len {W b p q r : Int} (h0 : 3 ≤ W) (h1 : W ≤ 8) : (looksOf W b p q r).length ≤ 40 := by
 simp [looksOf, List.length_flatMap]
 omega
theorem looks_bits {W b p q r : Int} (h0 : 3 ≤ W) (h1 : W ≤ 8) (hp : Row W p) (hq : Row W q) (hr : Row W r) : ∀ o ∈ looksOf W b p q r, (bit (rd [p, q, r] o.f1) o.f2 == 1) = o.f3 := by
 intro o ho
 obtain ⟨y, hy, ho⟩ := List.mem_flatMap.1 ho
 obtain ⟨j, hj, rfl⟩ := List.mem_map.1 ho
 have hj := List.mem_range.1 hj
 have hy : y = 0 ∨ y = 1 ∨ y = 2 := by simpa using hy
 have hm : (Int.ofNat j) ∈ (List.range 8).map Int.ofNat := List.mem_map.2 ⟨j, List.mem_range.2 (by omega), rfl⟩
 have key : ∀ t, Row W t → (bit t (Int.ofNat j) == 1) = (ink t (Int.ofNat j) == 49) := fun t ht =>
  (ink_bit t (mem_bytes (ht.byte h0 h1).1 (ht.byte h0 h1).2) _ hm).2.2.symm
 rcases hy with rfl | rfl | rfl
 · exact key p hp
 · exact key q hq
 · exact key r hr
def seenOf (W b : Int) (tx : List ByteArray) : List S59 := ([0, 1, 2] : List Int).flatMap fun y => (List.range W.toNat).map fun j => ⟨b, y, Int.ofNat j, bt (rdOf ByteArray.empty tx y) (Int.ofNat j) == 49⟩
theorem row_loop (W fr b y : Int) (tx : List ByteArray) (rows : List Int) (hW : W ≤ 8) (hs : ((rdOf ByteArray.empty tx y).size : Int) = W) (y0 : 0 ≤ y) (y1 : y < (tx.length : Int)) : ∀ (n : Nat) (j : Int), 0 ≤ j → j + n = W → ∀ (k : Nat) (acc : List S59), acc.length + n ≤ 100 →
 zia.l1 (k + n + 1) W fr b tx acc y j W rows = zia.l0 k W fr b tx (acc ++ (List.range n).map fun i => ⟨b, y, j + Int.ofNat i, bt (rdOf ByteArray.empty tx y) (j + Int.ofNat i) == 49⟩) (wrap64 (y + 1)) W rows := by
 intro n
 induction n with
 | zero =>
  intro j j0 hj k acc ha
  rw [zia.l1, if_neg (by omega)]
  simp
 | succ n ih =>
  intro j j0 hj k acc ha
  rw [show k + (n + 1) + 1 = (k + n + 1) + 1 by omega, zia.l1, if_pos (by omega), if_pos y0, if_pos y1, if_pos j0, if_pos (by omega), if_pos (by omega),
   IntWalk.wrap64_in (j + 1) ⟨by omega, by omega⟩, ih (j + 1) (by omega) (by omega) k _ (by simp; omega)]
  congr 1
  rw [List.range_succ_eq_map, List.map_cons, List.map_map, List.append_assoc, List.singleton_append]
  congr 2
  · simp
  · apply List.map_congr_left
    intro i _
    simp only [Function.comp, Int.ofNat_eq_natCast, Nat.succ_eq_add_one]
    have : j + 1 + (i : Int) = j + ((i + 1 : Nat) : Int) := by omega
    rw [this]
theorem loops (k : Nat) {W fr b : Int} {t0 t1 t2 : ByteArray} {rows : List Int} (h0 : 3 ≤ W) (h1 : W ≤ 8) (s0 : (t0.size : Int) = W) (s1 : (t1.size : Int) = W) (s2 : (t2.size : Int) = W) :
 zia.l0 (k + 1 + 3 * (W.toNat + 2)) W fr b [t0, t1, t2] [] 0 W rows = zia.l0 (k + 1) W fr b [t0, t1, t2] (seenOf W b [t0, t1, t2]) 3 W rows := by
 have step : ∀ (y : Int) (K : Nat) (acc : List S59), 0 ≤ y → y < 3 → ((rdOf ByteArray.empty [t0, t1, t2] y).size : Int) = W → acc.length ≤ 80 →
  zia.l0 (K + (W.toNat + 2)) W fr b [t0, t1, t2] acc y W rows = zia.l0 K W fr b [t0, t1, t2] (acc ++ (List.range W.toNat).map fun i => ⟨b, y, Int.ofNat i, bt (rdOf ByteArray.empty [t0, t1, t2] y) (Int.ofNat i) == 49⟩) (wrap64 (y + 1)) W rows := by
  intro y K acc y0 y1 hs ha
  rw [show K + (W.toNat + 2) = (K + W.toNat + 1) + 1 by omega, zia.l0, if_pos y1, if_pos y0, if_pos (show y < (([t0, t1, t2] : List ByteArray).length : Int) from y1), if_pos hs,
   row_loop W fr b y [t0, t1, t2] rows h1 hs y0 y1 W.toNat 0 (by omega) (by omega) K acc (by omega)]
  simp only [Int.zero_add]
 have hl : W.toNat ≤ 8 := by omega
 rw [show k + 1 + 3 * (W.toNat + 2) = (((k + 1) + (W.toNat + 2)) + (W.toNat + 2)) + (W.toNat + 2) by omega]
 rw [step 0 _ [] (by omega) (by omega) s0 (by simp), Int.zero_add, wrap1, step 1 _ _ (by omega) (by omega) s1 (by simp; omega), show (1 : Int) + 1 = 2 from rfl, wrap2, step 2 _ _ (by omega) (by omega) s2 (by simp; omega), show (2 : Int) + 1 = 3 from rfl, wrap3]
 simp only [seenOf, List.flatMap_cons, List.flatMap_nil, List.append_nil, List.nil_append, List.append_assoc]
theorem str_bt (l : List Int) (j : Nat) (h : j < l.length) (h0 : 0 ≤ l[j]) (h1 : l[j] ≤ 255) : bt (strOfNums l) (Int.ofNat j) = l[j] := by
 have hs : (Int.ofNat j).toNat < (strOfNums l).size := by rw [strOfNums_size]; exact h
 rw [← bt_at _ _ hs]
 show (((strOfNums l).data[j]'(by rw [strOfNums_size] at hs; simpa [strOfNums] using h)).toNat : Int) = l[j]
 simp only [strOfNums, List.getElem_toArray, List.getElem_map, UInt8.toNat_ofNat']
 omega
theorem seen_looks {W b p q r : Int} (h0 : 3 ≤ W) (h1 : W ≤ 8) (hp : Row W p) (hq : Row W q) (hr : Row W r) : seenOf W b [strOfNums (inks W p), strOfNums (inks W q), strOfNums (inks W r)] = looksOf W b p q r := by
 have key : ∀ t, Row W t → ∀ j ∈ List.range W.toNat, bt (strOfNums (inks W t)) (Int.ofNat j) = ink t (Int.ofNat j) := by
  intro t ht j hj
  have hj := List.mem_range.1 hj
  have hm : (Int.ofNat j) ∈ (List.range 8).map Int.ofNat := List.mem_map.2 ⟨j, List.mem_range.2 (by omega), rfl⟩
  obtain ⟨i0, i1, -⟩ := ink_bit t (mem_bytes (ht.byte h0 h1).1 (ht.byte h0 h1).2) _ hm
  have hl : j < (inks W t).length := by simpa [inks] using hj
  have he : (inks W t)[j] = ink t (Int.ofNat j) := by simp [inks]
  rw [str_bt _ j hl (by rw [he]; exact i0) (by rw [he]; exact i1), he]
 unfold seenOf looksOf
 simp only [List.flatMap_cons, List.flatMap_nil, List.append_nil]
 congr 1
 · exact List.map_congr_left fun j hj => by
     show (⟨b, 0, Int.ofNat j, bt (strOfNums (inks W p)) (Int.ofNat j) == 49⟩ : S59) = ⟨b, 0, Int.ofNat j, ink p (Int.ofNat j) == 49⟩
     rw [key p hp j hj]
 · congr 1
   · exact List.map_congr_left fun j hj => by
       show (⟨b, 1, Int.ofNat j, bt (strOfNums (inks W q)) (Int.ofNat j) == 49⟩ : S59) = ⟨b, 1, Int.ofNat j, ink q (Int.ofNat j) == 49⟩
       rw [key q hq j hj]
   · exact List.map_congr_left fun j hj => by
       show (⟨b, 2, Int.ofNat j, bt (strOfNums (inks W r)) (Int.ofNat j) == 49⟩ : S59) = ⟨b, 2, Int.ofNat j, ink r (Int.ofNat j) == 49⟩
       rw [key r hr j hj]
theorem up_ {α : Type} {F : Nat → Option α} {v : Option α} (c : Nat) (h : ∀ k, F (k + c) = v) {K : Nat} (hK : c ≤ K) : F K = v := by
 rw [show K = (K - c) + c by omega]
 exact h _
theorem same_rows (k : Nat) (x y z : Int) : zab.f (k + 4) [x, y, z] [x, y, z] = some true := by
 simp [zab.f, zab.l0, wrap1, wrap2, wrap3]
theorem ints_ (x y z : Int) : zdc.f [x, y, z] = some [x, y, z] := by simp [zdc.f]
theorem tail_ok (K : Nat) {W x y z b p q r : Int} {c : S32} (h0 : 3 ≤ W) (h1 : W ≤ 8) (hx : Row W x) (hy : Row W y) (hz : Row W z) (hc : CauseOk c) (b0 : 0 ≤ b) (b1 : b < 8) (hp : Row W p) (hq : Row W q) (hr : Row W r) (hb : boxed W x y z b c = [p, q, r]) (tx : List ByteArray) :
 zia.l0 (K + 300 + 1) W c.f2 b tx (looksOf W b p q r) 3 W [x, y, z] = some true := by
 obtain ⟨many, first, he, hm, hf⟩ := explain_ok (K + 100) h0 h1 hx hy hz hc b0 b1 (looks_ok h0) (looks_len (p := p) (q := q) (r := r) h0 h1) (by rw [hb]; exact looks_bits h0 h1 hp hq hr)
 rw [zia.l0, if_neg (by omega), show K + 300 = K + 100 + 200 by omega, he]
 simp only [Option.bind_some, if_true]
 rw [if_pos hm, if_pos hf, up_ 300 print_closed (show 300 ≤ K + 100 + 200 by omega), up_ 300 glue_closed (show 300 ≤ K + 100 + 200 by omega)]
 rfl
theorem law_pure {a0 a1 a2 a3 c0 c1 c2 d : Int} (h0 : 0 ≤ a0 ∧ a0 < 256) (h1 : 0 ≤ a1 ∧ a1 < 256) (h2 : 0 ≤ a2 ∧ a2 < 256) (h3 : 0 ≤ a3 ∧ a3 < 256) (k0 : 0 ≤ c0 ∧ c0 < 256) (k1 : 0 ≤ c1 ∧ c1 < 256) (k2 : 0 ≤ c2 ∧ c2 < 256) (kd : 0 ≤ d ∧ d < 256) :
 ∃ k, zia.f k a0 a1 a2 a3 c0 c1 c2 d = some true := by
 obtain ⟨W, hW⟩ : ∃ W, W = 3 + a0 % 6 := ⟨_, rfl⟩
 have w0 : 3 ≤ W := by omega
 have w1 : W ≤ 8 := by omega
 have hD : (0 : Int) < 2 ^ W.toNat := Int.pow_pos (by omega)
 have row : ∀ a : Int, Row W (a % 2 ^ W.toNat) := fun a => ⟨Int.emod_nonneg _ (by omega), Int.emod_lt_of_pos _ hD⟩
 have hplate : zrc.f a0 a1 a2 a3 = some ([a1 % 2 ^ W.toNat, a2 % 2 ^ W.toNat, a3 % 2 ^ W.toNat], W) := by
  unfold zrc.f
  rw [if_pos ⟨h0, h1, h2, h3⟩, hW]
 have hx := row a1
 have hy := row a2
 have hz := row a3
 generalize a1 % 2 ^ W.toNat = x at hplate hx
 generalize a2 % 2 ^ W.toNat = y at hplate hy
 generalize a3 % 2 ^ W.toNat = z at hplate hz
 have q0 : wrap64 c0 = c0 := IntWalk.wrap64_in _ ⟨by omega, by omega⟩
 have q1 : wrap64 c1 = c1 := IntWalk.wrap64_in _ ⟨by omega, by omega⟩
 have q2 : wrap64 c2 = c2 := IntWalk.wrap64_in _ ⟨by omega, by omega⟩
 have qd : wrap64 d = d := IntWalk.wrap64_in _ ⟨by omega, by omega⟩
 have t0 : Int.tmod c0 3 = c0 % 3 := Int.tmod_eq_emod_of_nonneg k0.1
 have t1 : Int.tmod c1 4 = c1 % 4 := Int.tmod_eq_emod_of_nonneg k1.1
 have t2 : Int.tmod c2 4 = c2 % 4 := Int.tmod_eq_emod_of_nonneg k2.1
 have td : Int.tmod d 8 = d % 8 := Int.tmod_eq_emod_of_nonneg kd.1
 have q3 : wrap64 (1 + c1 % 4) = 1 + c1 % 4 := IntWalk.wrap64_in _ ⟨by omega, by omega⟩
 obtain ⟨c, hc⟩ : ∃ c : S32, c = ⟨c0 % 3, 1 + c1 % 4, c2 % 4⟩ := ⟨_, rfl⟩
 have hco : CauseOk c := by
  subst hc
  exact ⟨⟨by simp only; omega, by simp only; omega⟩, ⟨by simp only; omega, by simp only; omega⟩, by simp only; omega, by simp only; omega⟩
 have hf2 : c2 % 4 = c.f2 := by rw [hc]
 have hc' : (⟨c0 % 3, 1 + c1 % 4, c.f2⟩ : S32) = c := by rw [← hf2]; exact hc.symm
 have b0 : 0 ≤ d % 8 := by omega
 have b1 : d % 8 < 8 := by omega
 obtain ⟨p, q, r, hb, hp, hq, hr⟩ := boxed_rows w0 w1 hx hy hz b0 b1 hco
 have sz : ∀ t, ((strOfNums (inks W t)).size : Int) = W := fun t => by rw [strOfNums_size]; simp [inks]; omega
 refine ⟨0 + 300 + 1 + 3 * (W.toNat + 2), ?_⟩
 have f1 : zhe.f (0 + 300 + 1 + 3 * (W.toNat + 2)) W [x, y, z] [] (d % 8) = some ([x, y, z], 0) := up_ (F := fun K_ => zhe.f K_ W [x, y, z] [] (d % 8)) (v := some ([x, y, z], 0)) 4 (fun k => Box_none k w0 w1 hx hy hz b0 b1) (by omega)
 have f2 : zhe.f (0 + 300 + 1 + 3 * (W.toNat + 2)) W [x, y, z] [c] (d % 8) = some (boxed W x y z (d % 8) c, 0) := up_ (F := fun K_ => zhe.f K_ W [x, y, z] [c] (d % 8)) (v := some (boxed W x y z (d % 8) c, 0)) 4 (fun k => Box_one k w0 w1 hx hy hz b0 b1 hco) (by omega)
 have f3 : zab.f (0 + 300 + 1 + 3 * (W.toNat + 2)) [x, y, z] [x, y, z] = some true := up_ (F := fun K_ => zab.f K_ [x, y, z] [x, y, z]) (v := some true) 4 (fun k => same_rows k x y z) (by omega)
 have f4 : zec.f (0 + 300 + 1 + 3 * (W.toNat + 2)) W 3 [[p, q, r]] [⟨0, 0⟩] = some ([strOfNums (inks W p), strOfNums (inks W q), strOfNums (inks W r)], 0) := up_ (F := fun K_ => zec.f K_ W 3 [[p, q, r]] [⟨0, 0⟩]) (v := some ([strOfNums (inks W p), strOfNums (inks W q), strOfNums (inks W r)], 0)) 70 (fun k => show_plate k w0 w1 hp hq hr) (by omega)
 have f5 : zuc.f (0 + 300 + 1 + 3 * (W.toNat + 2)) W 3 [[p, q, r]] [⟨⟨0, 0⟩, ⟨0, 0⟩⟩] 1 = some ([⟨ones p + ones q + ones r, ones p + ones q + ones r⟩], 0) := up_ (F := fun K_ => zuc.f K_ W 3 [[p, q, r]] [⟨⟨0, 0⟩, ⟨0, 0⟩⟩] 1) (v := some ([⟨ones p + ones q + ones r, ones p + ones q + ones r⟩], 0)) 50 (fun k => ink_plate k w0 w1 hp hq hr) (by omega)
 have f6 : zoa.f (0 + 300 + 1 + 3 * (W.toNat + 2)) [p, q, r] = some (ones p + ones q + ones r) := up_ (F := fun K_ => zoa.f K_ [p, q, r]) (v := some (ones p + ones q + ones r)) 67 (fun k => ones_plate k (hp.byte w0 w1) (hq.byte w0 w1) (hr.byte w0 w1)) (by omega)
 have f7 : zia.l0 (0 + 300 + 1 + 3 * (W.toNat + 2)) W c.f2 (d % 8) [strOfNums (inks W p), strOfNums (inks W q), strOfNums (inks W r)] [] 0 W [x, y, z] = some true := by
  rw [loops (0 + 300) w0 w1 (sz p) (sz q) (sz r), seen_looks w0 w1 hp hq hr]
  exact tail_ok 0 w0 w1 hx hy hz hco b0 b1 hp hq hr hb _
 rw [hb] at f2
 unfold zia.f
 rw [hplate]
 simp only [Option.bind_some, ints_, q0, q1, q2, qd, t0, t1, t2, td, q3, hc', f1, List.nil_append, f2, f3, f4, f5, f6, if_true, hf2]
 rw [if_pos (by simp)]
 simp [ints_, f4, f5, f6, ztb.f, rd_T51, f7]
end Go.Proofs.YtoacbkoenkiahaaGreat.PTopGluePlate
end
section
namespace Go.Proofs.YtoacbkoenkiahaaGreat.topGluePlate
open Go.ChangeShapes Go.WideShapes Go.ChangeAt Go.RowKit
set_option linter.unusedVariables false
theorem own : ownKnob Tryz.prog.godebug = none := by kernel_rfl
theorem cells5 : Tryz.prog.cellsOf 5 = 1 := by kernel_rfl
theorem cells22 : Tryz.prog.cellsOf 22 = 4 := by kernel_rfl
theorem cells23 : Tryz.prog.cellsOf 23 = 3 := by kernel_rfl
theorem list4 {α : Type} (l : List α) (h : (⟨l⟩ : Array α).size = 4) : ∃ a b c d, l = [a, b, c, d] := by
 match l, h with
 | [a, b, c, d], _ => exact ⟨a, b, c, d, rfl⟩
theorem list3 {α : Type} (l : List α) (h : (⟨l⟩ : Array α).size = 3) : ∃ a b c, l = [a, b, c] := by
 match l, h with
 | [a, b, c], _ => exact ⟨a, b, c, rfl⟩
section
variable {P : Program} {t e : TypeId} {H : Type} {enc : TypeId × Value → H} {w : World} {base b0 : Nat} {spare : Nat → Bool} {held : Bool}
theorem open4 (hu : P.underlying t = some (.array 4 e)) (he : P.underlying e = some (.int .u8)) (hct : P.cellsOf t = 4) (hce : P.cellsOf e = 1) {v : Value} {d : DataW H} {ps : List MemPlace} (hval : Value.okWide P w .any b0 t v) (hd : DataW.Trod enc P w base spare held t v d ps) :
 ∃ x0 x1 x2 x3, v = .agg #[.int .u8 x0, .int .u8 x1, .int .u8 x2, .int .u8 x3] ∧ d = .agg [.lit (.int .u8 x0), .lit (.int .u8 x1), .lit (.int .u8 x2), .lit (.int .u8 x3)] ∧ ps = [] ∧ (Lit.int .u8 x0).wf = true ∧ (Lit.int .u8 x1).wf = true ∧ (Lit.int .u8 x2).wf = true ∧ (Lit.int .u8 x3).wf = true := by
 obtain ⟨cs, rfl, hsz, _⟩ : ∃ cs, v = .agg cs ∧ cs.size = P.cellsOf t ∧ Row.okWide P w .any b0 t cs := by
  simpa [Value.okWide, hu] using hval
 rw [hct] at hsz
 obtain ⟨l⟩ := cs
 obtain ⟨c0, c1, c2, c3, rfl⟩ := list4 l hsz
 obtain ⟨fuel, hf⟩ := hd
 obtain ⟨y0, y1, y2, y3, m, hx, hy0, hy1, hy2, hy3⟩ := trod_array4 hu hce hf
 obtain ⟨x0, e0, rfl, w0⟩ := DataW.trod_int he hy0
 obtain ⟨x1, e1, rfl, w1⟩ := DataW.trod_int he hy1
 obtain ⟨x2, e2, rfl, w2⟩ := DataW.trod_int he hy2
 obtain ⟨x3, e3, rfl, w3⟩ := DataW.trod_int he hy3
 simp at e0 e1 e2 e3
 subst e0 e1 e2 e3
 simp only [Prod.mk.injEq] at hx
 obtain ⟨rfl, rfl⟩ := hx
 exact ⟨x0, x1, x2, x3, rfl, rfl, rfl, w0, w1, w2, w3⟩
theorem open3 (hu : P.underlying t = some (.array 3 e)) (he : P.underlying e = some (.int .u8)) (hct : P.cellsOf t = 3) (hce : P.cellsOf e = 1) {v : Value} {d : DataW H} {ps : List MemPlace} (hval : Value.okWide P w .any b0 t v) (hd : DataW.Trod enc P w base spare held t v d ps) :
 ∃ x0 x1 x2, v = .agg #[.int .u8 x0, .int .u8 x1, .int .u8 x2] ∧ d = .agg [.lit (.int .u8 x0), .lit (.int .u8 x1), .lit (.int .u8 x2)] ∧ ps = [] ∧ (Lit.int .u8 x0).wf = true ∧ (Lit.int .u8 x1).wf = true ∧ (Lit.int .u8 x2).wf = true := by
 obtain ⟨cs, rfl, hsz, _⟩ : ∃ cs, v = .agg cs ∧ cs.size = P.cellsOf t ∧ Row.okWide P w .any b0 t cs := by
  simpa [Value.okWide, hu] using hval
 rw [hct] at hsz
 obtain ⟨l⟩ := cs
 obtain ⟨c0, c1, c2, rfl⟩ := list3 l hsz
 obtain ⟨fuel, hf⟩ := hd
 obtain ⟨y0, y1, y2, m, hx, hy0, hy1, hy2⟩ := trod_array3 hu hce hf
 obtain ⟨x0, e0, rfl, w0⟩ := DataW.trod_int he hy0
 obtain ⟨x1, e1, rfl, w1⟩ := DataW.trod_int he hy1
 obtain ⟨x2, e2, rfl, w2⟩ := DataW.trod_int he hy2
 simp at e0 e1 e2
 subst e0 e1 e2
 simp only [Prod.mk.injEq] at hx
 obtain ⟨rfl, rfl⟩ := hx
 exact ⟨x0, x1, x2, rfl, rfl, rfl, w0, w1, w2⟩
theorem shut4 (hu : P.underlying t = some (.array 4 e)) (he : P.underlying e = some (.int .u8)) (hct : P.cellsOf t = 4) (hce : P.cellsOf e = 1) {x0 x1 x2 x3 : Int} (w0 : (Lit.int .u8 x0).wf = true) (w1 : (Lit.int .u8 x1).wf = true) (w2 : (Lit.int .u8 x2).wf = true) (w3 : (Lit.int .u8 x3).wf = true) : DataW.Trod enc P w base spare held t (.agg #[.int .u8 x0, .int .u8 x1, .int .u8 x2, .int .u8 x3]) (.agg [.lit (.int .u8 x0), .lit (.int .u8 x1), .lit (.int .u8 x2), .lit (.int .u8 x3)]) [] :=
 ⟨2, by simp [DataW.trod, Value.cells, hu, he, hct, hce, w0, w1, w2, w3, show List.range 4 = [0, 1, 2, 3] from rfl]⟩
theorem shut3 (hu : P.underlying t = some (.array 3 e)) (he : P.underlying e = some (.int .u8)) (hct : P.cellsOf t = 3) (hce : P.cellsOf e = 1) {x0 x1 x2 : Int} (w0 : (Lit.int .u8 x0).wf = true) (w1 : (Lit.int .u8 x1).wf = true) (w2 : (Lit.int .u8 x2).wf = true) : DataW.Trod enc P w base spare held t (.agg #[.int .u8 x0, .int .u8 x1, .int .u8 x2]) (.agg [.lit (.int .u8 x0), .lit (.int .u8 x1), .lit (.int .u8 x2)]) [] :=
 ⟨2, by simp [DataW.trod, Value.cells, hu, he, hct, hce, w0, w1, w2, show List.range 3 = [0, 1, 2] from rfl]⟩
end
theorem byte_ {x : Int} (h : (Lit.int .u8 x).wf = true) : 0 ≤ x ∧ x < 256 := by
 have := bounds_u8 h
 omega
theorem walk (a0 a1 a2 a3 c0 c1 c2 d : Int) (w : World) (h0 : (Lit.int .u8 a0).wf = true) (h1 : (Lit.int .u8 a1).wf = true) (h2 : (Lit.int .u8 a2).wf = true) (h3 : (Lit.int .u8 a3).wf = true) (k0 : (Lit.int .u8 c0).wf = true) (k1 : (Lit.int .u8 c1).wf = true) (k2 : (Lit.int .u8 c2).wf = true) (kd : (Lit.int .u8 d).wf = true) :
 Calls Tryz.prog 3 #[.agg #[.int .u8 a0, .int .u8 a1, .int .u8 a2, .int .u8 a3], .agg #[.int .u8 c0, .int .u8 c1, .int .u8 c2], .int .u8 d] w fun e w' => e = .returned (.bool true) ∧ Below w.heap.size w w' := by
 obtain ⟨k, h⟩ := PTopGluePlate.law_pure (byte_ h0) (byte_ h1) (byte_ h2) (byte_ h3) (byte_ k0) (byte_ k1) (byte_ k2) (byte_ kd)
 exact PTopGluePlate.zia.calls k a0 a1 a2 a3 c0 c1 c2 d true w h
set_option maxRecDepth 100000 in
theorem lifted (os : Os) (started : os.Started) (H : Type) (enc : TypeId × Value → H) :
 ReturnsInHanded {} Tryz.checked os 3 .any (Rows.topGluePlateSpec.pre6 enc Tryz.prog Tryz.f3 Rows.topGluePlateRow.domain false) (Rows.topGluePlateSpec.post enc Tryz.prog Tryz.f3 false true false false) := by
 refine returnsInHanded_of_change_sized (C := Tryz.checked) own started (by kernel_rfl) Tryz.func3
  (ChangeSpec.witness6 (enc := enc) (C := Tryz.checked) false ⟨#[], #[.agg #[.int .u8 0, .int .u8 0, .int .u8 0, .int .u8 0], .agg #[.int .u8 0, .int .u8 0, .int .u8 0], .int .u8 0], []⟩ 8 (by kernel_rfl) (by kernel_rfl) (by kernel_rfl) (by kernel_rfl)) ?_
 intro W base args ds gs before hval0 hW hcnd hsz0 _
 have hval : ∀ (j : Nat) t v, Tryz.f3.params[j]? = some t → args[j]? = some v → Value.okWide Tryz.prog W .any base t v := hval0
 have hW' := hW
 obtain ⟨p, q, hA0, hV, rfl, hfz, hnd⟩ := hW
 have hA : DataW.TrodAll enc Tryz.prog W 0 (fun _ => true) true Tryz.f3.params.toList args.toList ds p := hA0
 rw [Tryz.params3] at hA hval
 obtain ⟨v0, vs0, d0, ds0, p0, q0, hargs, rfl, rfl, h0, r0⟩ := trodAll_cons hA
 obtain ⟨v1, vs1, d1, ds1, p1, q1, rfl, rfl, rfl, h1, r1⟩ := trodAll_cons r0
 obtain ⟨v2, vs2, d2, ds2, p2, q2, rfl, rfl, rfl, h2, r2⟩ := trodAll_cons r1
 obtain ⟨rfl, rfl, rfl⟩ := trodAll_nil r2
 obtain rfl : args = #[v0, v1, v2] := by cases args; simp_all
 obtain ⟨rfl, rfl⟩ := trodVars_none hV
 obtain ⟨a0, a1, a2, a3, rfl, rfl, rfl, x0, x1, x2, x3⟩ := open4 Tryz.underlying22 Tryz.underlying5 cells22 cells5 (hval 0 22 v0 rfl rfl) h0
 obtain ⟨c0, c1, c2, rfl, rfl, rfl, y0, y1, y2⟩ := open3 Tryz.underlying23 Tryz.underlying5 cells23 cells5 (hval 1 23 v1 rfl rfl) h1
 obtain ⟨e, rfl, rfl, rfl, z⟩ := open_int Tryz.underlying5 (hval 2 5 v2 rfl rfl) h2
 clear hA0 hval0 hsz0
 refine (walk a0 a1 a2 a3 c0 c1 c2 e W x0 x1 x2 x3 y0 y1 y2 z).mono fun e' W' ⟨he, bel⟩ => ?_
 subst he
 exact ⟨_, rfl, _, _, _, [], _, [], hW', trodAll_mk1 (shut_bool Tryz.underlying4 _), trodAll_cons_mk (shut4 Tryz.underlying22 Tryz.underlying5 cells22 cells5 x0 x1 x2 x3) (trodAll_cons_mk (shut3 Tryz.underlying23 Tryz.underlying5 cells23 cells5 y0 y1 y2) (trodAll_cons_mk (shut_int Tryz.underlying5 z) trodAll_mk0)), rfl, bel.frame _, fun h => by cases h⟩
theorem over : Rows.topGluePlateRow.holds Tryz.pinned (OpenSpec.ofChange Rows.topGluePlateSpec) :=
 OpenClaim.holds_of_wide 3 Tryz.f3 rfl rfl rfl rfl rfl rfl rfl ⟨rfl, rfl, rfl, rfl, rfl⟩ rfl rfl rfl rfl rfl (by kernel_rfl) Tryz.func3 (by kernel_rfl)
  (of_decide_eq_true (by kernel_rfl)) (by unfold Func.isWrapper; first | (rw [if_pos (by decide +kernel)]; kernel_rfl) | (rw [if_neg (by decide +kernel)]; exact ⟨rfl, rfl⟩))
  (fun os started H enc _ => lifted os started H enc)
theorem proved : Rows.TopGluePlateSaid := over
end Go.Proofs.YtoacbkoenkiahaaGreat.topGluePlate
namespace Go.Proofs.YtoacbkoenkiahaaGreat
theorem topGluePlate_holds : Rows.TopGluePlateSaid := topGluePlate.proved
end Go.Proofs.YtoacbkoenkiahaaGreat
end
