/- A part of the proof of the law TopGluePlate: whatever the input, the call returns true and its arguments read as they read before; no condition. Written by a program of this session out of its own texts and the printed ones. -/
import Derived.RangeFuncNested
import Derived.RangeFuncBound
import Derived.RangeFuncCalls
import Derived.RangeFuncLeaves
import Derived.RangeFuncBox
import Derived.OwnWalkIn
import Derived.TacticsInMore
import Derived.LoopNIn
import Derived.LoopIn
import Derived.Shelf.RegionOpen
import Derived.Test.YtoacbkoenkiahaaGreatPkW1
import Derived.Test.YtoacbkoenkiahaaGreatPkX1
section
namespace Go.Proofs.YtoacbkoenkiahaaGreat.PTopGluePlate
open Go.RowKit Go.Proofs.YtoacbkoenkiahaaGreatW.PrintWords Go.Proofs.YtoacbkoenkiahaaGreatW.PrintLast Go.Proofs.YtoacbkoenkiahaaGreatW.PrintMore
attribute [local go_sem] znb zlb zhc zgc zeb zdb zmb zkb
set_option linter.unusedVariables false
set_option linter.unusedSimpArgs false
def zgd.f (l0 : List (List Int)) (a1_0 : Int) (a1_1 : Int) (l1_2 : List (List Int)) : Option Bool := containsO (fun (x : List Int) => print_open_1.f x a1_0 a1_1 l1_2) l0
set_option maxHeartbeats 1000000 in
theorem zgd.calls (A0 : Option Addr) (c0 : Nat) (l0 : List (List Int)) (g1_ : Nat) (a1_0 : Int) (a1_1 : Int) (A1_2 : Option Addr) (c1_2 : Nat) (l1_2 : List (List Int)) (r : Bool) (w : World) (hr0 : Kd.C (Kd.slice 3 (Kd.int .i64)) w A0 l0.length l0) (hc0 : l0.length ≤ c0) (hr1_2 : Kd.C (Kd.slice 3 (Kd.int .i64)) w A1_2 l1_2.length l1_2) (hc1_2 : l1_2.length ≤ c1_2) (hbx1 : w.heap[g1_]? = some (.cells #[.int .i64 a1_0, .int .i64 a1_1, .slice A1_2 l1_2.length c1_2] 40 (0, 0))) (h : zgd.f l0 a1_0 a1_1 l1_2 = some r) :
 Calls Tryz.prog 38 #[.slice A0 l0.length c0, .func (.func 37) #[] #[.pointer (some ⟨g1_, 0, none⟩)]] w fun e w' => e = .returned (.bool r) ∧ Below w.heap.size w w' := by
 have eg : ∀ args w, (callFunc 37 args).run Tryz.prog w = .ok (.enter 37 args) w := enters_of Tryz.func37 (by kernel_rfl) rfl
 refine slices_ContainsFunc_sl_int.calls 37 #[.pointer (some ⟨g1_, 0, none⟩)] (fun (x : List Int) => print_open_1.f x a1_0 a1_1 l1_2) A0 c0 l0 r w hr0 hc0 eg ?_ h
 intro W x A_ c_ hx hA_ hc_ hW b hb
 refine (print_open_1.calls A_ c_ x g1_ a1_0 a1_1 _ _ l1_2 b W hA_ hc_ (Kd.zkc hr1_2 hW) hc1_2 ((hW.block _ (zbc hbx1)).trans hbx1) hb).mono ?_
 rintro e w' ⟨rfl, hd⟩; exact ⟨rfl, hd⟩
def zud.j0 : Nat → Bool → Int → Int → List (List Int) → Option (Int × Int × (List (List Int)) × Int)
 | 0, _, _, _, _ => none
 | k + 1, x6, x178000, x178001, x178002 => if x6 = true then (none) else (if (x178002.length : Int) > 3 then (none) else (if (x178002.length : Int) = 0 then (none) else ((zgd.f x178002 x178000 x178001 x178002).bind fun t187 => (if t187 = true then (none) else (some (x178000, x178001, x178002, 0))))))
def zud.f (k : Nat) (a0_0 : Int) (a0_1 : Int) (l0_2 : List (List Int)) : Option (Int × Int × (List (List Int)) × Int) := (zxb.f 1 10 (([a0_0] : List Int))).bind fun t182 => (if t182 = true then ((zxb.f 1 6 (([a0_1] : List Int))).bind fun t186 => (zud.j0 k (!t186) a0_0 a0_1 l0_2)) else (zud.j0 k (!t182) a0_0 a0_1 l0_2))
set_option maxHeartbeats 8000000 in
set_option maxRecDepth 100000 in
theorem zud.calls (k : Nat) (a0_0 : Int) (a0_1 : Int) (P0_2_ : Nat → Prop) (A0_2 : Option Addr) (c0_2 : Nat) (l0_2 : List (List Int)) (r1 : Int) (r2 : Int) (r3 : List (List Int)) (r4 : Int) (w : World) (hs0_2 : Kd.V (Kd.slice 3 (Kd.int .i64)) 24 w w.heap.size (fun k_ => P0_2_ k_) (.slice A0_2 l0_2.length c0_2) l0_2) (h : zud.f k a0_0 a0_1 l0_2 = some (r1, r2, r3, r4)) :
 Calls Tryz.prog 18 #[.agg #[.int .i64 a0_0, .int .i64 a0_1, .slice A0_2 l0_2.length c0_2]] w fun e w' => ∃ v2_ : Value, e = .returned (.tuple #[.agg #[.int .i64 r1, .int .i64 r2, v2_], .int .i64 r4]) ∧ Kd.V (Kd.slice 3 (Kd.int .i64)) 24 w' w.heap.size (fun k_ => (P0_2_ k_ ∨ w.heap.size ≤ k_)) v2_ r3 ∧ Below w.heap.size w w' := by
 have hu40 := Tryz.underlying40
 have hu72 := Tryz.underlying72
 have HO0_2 := zaa.mk (show Kd.V (Kd.slice 3 (Kd.int .i64)) 24 w w.heap.size (fun k_ => (P0_2_ k_ ∨ w.heap.size ≤ k_)) (.slice A0_2 l0_2.length c0_2) l0_2 from Kd.zcc hs0_2 (fun k_ hk => .inl hk))
 have HB := zaa.mk (Below.refl w.heap.size w)
 have H : ((zxb.f 1 10 (([a0_0] : List Int))).bind fun t182 => (if t182 = true then ((zxb.f 1 6 (([a0_1] : List Int))).bind fun t186 => (zud.j0 k (!t186) a0_0 a0_1 l0_2)) else (zud.j0 k (!t182) a0_0 a0_1 l0_2))) = some (r1, r2, r3, r4) := h
 clear h
 obtain ⟨y179, hy179⟩ : ∃ y_ : List Int, y_ = (([a0_0] : List Int)) := ⟨_, rfl⟩
 replace H : ((zxb.f 1 10 y179).bind fun t182 => (if t182 = true then ((zxb.f 1 6 (([a0_1] : List Int))).bind fun t186 => (zud.j0 k (!t186) a0_0 a0_1 l0_2)) else (zud.j0 k (!t182) a0_0 a0_1 l0_2))) = some (r1, r2, r3, r4) := by first | (rw [hy179]; with_reducible exact H) | (have H2_ := (Option.bind_some _ _).symm.trans H; rw [hy179]; with_reducible exact H2_) | (have H2_ := (Option.bind_some _ _).symm.trans H; with_reducible exact H2_) | with_reducible exact H | (rw [hy179]; exact H) | exact H
 have Ny179 := zaa.mk hy179
 clear hy179
 replace H := Option.bind_eq_some_iff.mp H
 obtain ⟨t182, A20, H⟩ := H
 replace H : (if t182 = true then ((zxb.f 1 6 (([a0_1] : List Int))).bind fun t186 => (zud.j0 k (!t186) a0_0 a0_1 l0_2)) else (zud.j0 k (!t182) a0_0 a0_1 l0_2)) = some (r1, r2, r3, r4) := H
 have A2 := zaa.mk A20
 clear A20
 have HC3 := zaa.mk H
 clear H
 go_enter Tryz.func18, Tryz.ntmps18
 go_upto_if 6 with (first | ((with_reducible refine zbb (N := 1) rfl ?_); refine zob ?hg (N := 1) ?hd (cs := #[.int .i64 a0_0, .int .i64 a0_1, .slice A0_2 l0_2.length c0_2]) (t := 40) ?hr ?_; (case hd => rfl); (case hg => rfl); (case hr => first | (go_simp; done) | (go_simp; rfl)); intro gb177 hg w4 hbox hb; replace HO0_2 := zaa.mk (Kd.zqc (Kd.zld (by (with_reducible repeat (first | apply Kd.zza | apply Kd.zya | apply Kd.zib)); exact HO0_2.out) gb177 (Nat.le_of_eq hg.symm)) hb); have BK177 := zaa.mk (hbox); have GW177 := zaa.mk ((by rw [hg]; exact (zja (by repeat (first | (with_reducible first | exact HB.out | apply zda | apply zba | apply zca) | exact HB.out))) : w.heap.size ≤ gb177)); have GE177 := zaa.mk ((by rw [hg]; exact (zja (by repeat (first | (with_reducible first | exact HB.out | apply zda | apply zba | apply zca) | exact HB.out))) : w.heap.size ≤ gb177)); replace HB := zaa.mk (zma (by repeat (first | (with_reducible first | exact HB.out | apply zda | apply zba | apply zca) | exact HB.out)) hb); clear hb hbox hg) | ((with_reducible refine zbb (N := 2) rfl ?_); refine zob ?hg (N := 2) ?hd (cs := #[.int .i64 0, .int .i64 0, .slice none 0 0]) (t := 72) ?hr ?_; (case hd => rfl); (case hg => rfl); (case hr => first | (go_simp; done) | (go_simp; rfl)); intro gb178 hg w5 hbox hb; replace HO0_2 := zaa.mk (Kd.zqc (Kd.zld (by (with_reducible repeat (first | apply Kd.zza | apply Kd.zya | apply Kd.zib)); exact HO0_2.out) gb178 (Nat.le_of_eq hg.symm)) hb); have BK178 := zaa.mk (hbox); have GW178 := zaa.mk ((by rw [hg]; exact (zja (by repeat (first | (with_reducible first | exact HB.out | apply zda | apply zba | apply zca | refine zea ?_ GE177.out) | exact HB.out))) : w.heap.size ≤ gb178)); have GE178 := zaa.mk ((by rw [hg]; exact (zja (by repeat (first | (with_reducible first | exact HB.out | apply zda | apply zba | apply zca | refine zea ?_ GE177.out) | exact HB.out))) : w.heap.size ≤ gb178)); replace HB := zaa.mk (zma (by repeat (first | (with_reducible first | exact HB.out | apply zda | apply zba | apply zca | refine zea ?_ GE177.out) | exact HB.out)) hb); have NB177_178 := zaa.mk ((by rw [hg]; exact Nat.ne_of_lt (zbc (g := gb177) (o := .cells #[.int .i64 a0_0, .int .i64 a0_1, .slice A0_2 l0_2.length c0_2] 40 (0, 0)) (by (with_reducible repeat (first | refine zga ?_ _ | refine zha ?_ | refine zfa ?_ _)); exact BK177.out)) : gb177 ≠ gb178)); have NB178_177 := zaa.mk ((by rw [hg]; exact Nat.ne_of_gt (zbc (g := gb177) (o := .cells #[.int .i64 a0_0, .int .i64 a0_1, .slice A0_2 l0_2.length c0_2] 40 (0, 0)) (by (with_reducible repeat (first | refine zga ?_ _ | refine zha ?_ | refine zfa ?_ _)); exact BK177.out)) : gb178 ≠ gb177)); replace BK177 := zaa.mk (zna (g := gb177) (o := .cells #[.int .i64 a0_0, .int .i64 a0_1, .slice A0_2 l0_2.length c0_2] 40 (0, 0)) (by (with_reducible repeat (first | refine zga ?_ _ | refine zha ?_ | refine zfa ?_ _)); exact BK177.out) hb); clear hb hbox hg; have hnb6 := NB177_178.out; have hnc6 := NB178_177.out; have hcz7_0 : w5.cell? ⟨gb177, 0, none⟩ = some (.int .i64 a0_0) := (zla BK177.out 0).trans rfl; have hcz7_1 : w5.cell? ⟨gb177, 1, none⟩ = some (.int .i64 a0_1) := (zla BK177.out 1).trans rfl; have hcz7_2 : w5.cell? ⟨gb177, 2, none⟩ = some (.slice A0_2 l0_2.length c0_2) := (zla BK177.out 2).trans rfl; have hfz7_0 := zka BK177.out 0; have hfz7_1 := zka BK177.out 1; have hfz7_2 := zka BK177.out 2) | ((with_reducible refine zbb (N := 9) rfl ?_); refine Kd.R_lit (Kd.int .i64) _ 3 ?hg (N := 9) ?hd (xs := ([a0_0] : List Int)) (inner := [.int .i64 a0_0]) (ok := fun _ => True) (okp := fun _ => True) ?hr ?hp (fun _ hk => hk) trivial (Below.refl _ _) (Nat.le_refl _) (by simp) ?_; (case hd => rfl); (case hg => rfl); (case hr => first | (go_simp; done) | (go_simp; rfl)); (case hp => exact (Reps.one (show Kd.M (Kd.int .i64) _ _ _ a0_0 [.int .i64 a0_0] from rfl) (Reps.none _ _))); intro v180 w8 ho9 hb hg_ hnew_; clear hg_ hnew_; (first | rw [← Ny179.out] at ho9 | (simp only [Int.reduceToNat] at ho9; rw [← Ny179.out] at ho9)); replace HO0_2 := zaa.mk (Kd.V_elder' (by (with_reducible repeat (first | apply Kd.zza | apply Kd.zya | apply Kd.zib)); exact HO0_2.out) (Kd.zxd ho9) hb); have HO181 := zaa.mk (Kd.znd (Kd.R_newM (M := fun k_ => (w.heap.size ≤ k_)) ho9 (zja (by repeat (first | (with_reducible first | exact HB.out | apply zda | apply zba | apply zca | refine zea ?_ GE177.out | refine zea ?_ GE178.out) | exact HB.out))) (fun k_ h_ => h_)) (zja (by repeat (first | (with_reducible first | exact HB.out | apply zda | apply zba | apply zca | refine zea ?_ GE177.out | refine zea ?_ GE178.out) | exact HB.out)))); replace BK177 := zaa.mk (zna (g := gb177) (o := .cells #[.int .i64 a0_0, .int .i64 a0_1, .slice A0_2 l0_2.length c0_2] 40 (0, 0)) (by (with_reducible repeat (first | refine zga ?_ _ | refine zha ?_ | refine zfa ?_ _)); exact BK177.out) hb); replace BK178 := zaa.mk (zna (g := gb178) (o := .cells #[.int .i64 0, .int .i64 0, .slice none 0 0] 72 (0, 0)) (by (with_reducible repeat (first | refine zga ?_ _ | refine zha ?_ | refine zfa ?_ _)); exact BK178.out) hb); replace HB := zaa.mk (zma (by repeat (first | (with_reducible first | exact HB.out | apply zda | apply zba | apply zca | refine zea ?_ GE177.out | refine zea ?_ GE178.out) | exact HB.out)) hb); clear hb ho9; obtain ⟨Ao10, co10, eo10⟩ := Kd.zfd HO181.out; subst eo10) | ((with_reducible refine zxa (f := 25) rfl ?_); refine zhd (some 10) rfl rfl Tryz.func25 (by kernel_rfl) rfl #[.int .i64 1, .int .i64 10, .slice Ao10 y179.length co10] rfl (by (try simp only [List.map_toArray, List.map_cons, List.map_nil]); first | done | rfl | (simp only [List.length_drop, List.length_take]; rfl)) ?_; (with_reducible refine (zxb.calls 1 10 _ _ y179 t182 _ ?side1 ?side2 A2.out).mono ?_); (case side1 => repeat (first | exact (Kd.zgb HO181.out).2.2 | (with_reducible refine Kd.zrb ?_ _) | (with_reducible refine Kd.zqb ?_ _) | (with_reducible refine Kd.zmc ?_))); (case side2 => exact (Kd.zgb HO181.out).2.1); rintro e w11 ⟨rfl, hb⟩; refine ⟨_, rfl, ?_⟩; replace HO0_2 := zaa.mk (Kd.zqc (by (with_reducible repeat (first | apply Kd.zza | apply Kd.zya | apply Kd.zib)); exact HO0_2.out) hb); replace HO181 := zaa.mk (Kd.zcb (by (with_reducible repeat (first | apply Kd.zqa | apply Kd.zpa | apply Kd.zsa)); exact HO181.out) hb); replace BK177 := zaa.mk (zna (g := gb177) (o := .cells #[.int .i64 a0_0, .int .i64 a0_1, .slice A0_2 l0_2.length c0_2] 40 (0, 0)) (by (with_reducible repeat (first | refine zga ?_ _ | refine zha ?_ | refine zfa ?_ _)); exact BK177.out) hb); replace BK178 := zaa.mk (zna (g := gb178) (o := .cells #[.int .i64 0, .int .i64 0, .slice none 0 0] 72 (0, 0)) (by (with_reducible repeat (first | refine zga ?_ _ | refine zha ?_ | refine zfa ?_ _)); exact BK178.out) hb); replace HB := zaa.mk (zma (by repeat (first | (with_reducible first | exact HB.out | apply zda | apply zba | apply zca | refine zea ?_ GE177.out | refine zea ?_ GE178.out) | exact HB.out)) hb); (try clear hb); (try clear hb2); (try clear hk); (try clear hi)))
 (try simp only [Act.put, List.setIfInBounds_toArray, List.set_cons_zero, List.set_cons_succ])
 go_cut [6] (fun v6 wc => ∃ (kq : Nat) (x6_2 : Bool), v6 = .bool x6_2 ∧ zaa (zud.j0 kq x6_2 a0_0 a0_1 l0_2 = some (r1, r2, r3, r4)) ∧ zaa (kq ≤ k) ∧ zaa (Kd.V (Kd.slice 3 (Kd.int .i64)) 24 wc w.heap.size (fun k_ => (P0_2_ k_ ∨ w.heap.size ≤ k_) ∧ k_ ≠ gb177 ∧ k_ ≠ gb178) (.slice A0_2 l0_2.length c0_2) l0_2) ∧ zaa (wc.heap[gb177]? = some (.cells #[.int .i64 a0_0, .int .i64 a0_1, (.slice A0_2 l0_2.length c0_2)] 40 (0, 0))) ∧ zaa (wc.heap[gb178]? = some (.cells #[.int .i64 0, .int .i64 0, (.slice none 0 0)] 72 (0, 0))) ∧ zaa (Below w.heap.size w wc))
 case first =>
  have H := HC3.out
  clear HC3
  by_cases c12 : t182 = true
  · subst c12
    have H1 : ((zxb.f 1 6 (([a0_1] : List Int))).bind fun t186 => (zud.j0 k (!t186) a0_0 a0_1 l0_2)) = some (r1, r2, r3, r4) := by rw [if_pos rfl] at H; exact H
    clear H
    have H := H1
    clear H1
    obtain ⟨y183, hy183⟩ : ∃ y_ : List Int, y_ = (([a0_1] : List Int)) := ⟨_, rfl⟩
    replace H : ((zxb.f 1 6 y183).bind fun t186 => (zud.j0 k (!t186) a0_0 a0_1 l0_2)) = some (r1, r2, r3, r4) := by first | (rw [hy183]; with_reducible exact H) | (have H2_ := (Option.bind_some _ _).symm.trans H; rw [hy183]; with_reducible exact H2_) | (have H2_ := (Option.bind_some _ _).symm.trans H; with_reducible exact H2_) | with_reducible exact H | (rw [hy183]; exact H) | exact H
    have Ny183 := zaa.mk hy183
    clear hy183
    replace H := Option.bind_eq_some_iff.mp H
    obtain ⟨t186, A130, H⟩ := H
    replace H : (zud.j0 k (!t186) a0_0 a0_1 l0_2) = some (r1, r2, r3, r4) := H
    have A13 := zaa.mk A130
    clear A130
    have H' := zaa.mk H
    clear H
    have hnb14 := NB177_178.out
    have hnc14 := NB178_177.out
    have hcz15_0 : w11.cell? ⟨gb177, 0, none⟩ = some (.int .i64 a0_0) := (zla BK177.out 0).trans rfl
    have hcz15_1 : w11.cell? ⟨gb177, 1, none⟩ = some (.int .i64 a0_1) := (zla BK177.out 1).trans rfl
    have hcz15_2 : w11.cell? ⟨gb177, 2, none⟩ = some (.slice A0_2 l0_2.length c0_2) := (zla BK177.out 2).trans rfl
    have hfz15_0 := zka BK177.out 0
    have hfz15_1 := zka BK177.out 1
    have hfz15_2 := zka BK177.out 2
    go_wp2_with (first | ((with_reducible refine zbb (N := 14) rfl ?_); refine Kd.R_lit (Kd.int .i64) _ 3 ?hg (N := 14) ?hd (xs := ([a0_1] : List Int)) (inner := [.int .i64 a0_1]) (ok := fun _ => True) (okp := fun _ => True) ?hr ?hp (fun _ hk => hk) trivial (Below.refl _ _) (Nat.le_refl _) (by simp) ?_; (case hd => rfl); (case hg => rfl); (case hr => first | (go_simp; done) | (go_simp; rfl)); (case hp => exact (Reps.one (show Kd.M (Kd.int .i64) _ _ _ a0_1 [.int .i64 a0_1] from rfl) (Reps.none _ _))); intro v184 w16 ho17 hb hg_ hnew_; clear hg_ hnew_; (first | rw [← Ny183.out] at ho17 | (simp only [Int.reduceToNat] at ho17; rw [← Ny183.out] at ho17)); replace HO0_2 := zaa.mk (Kd.V_elder' (by (with_reducible repeat (first | apply Kd.zza | apply Kd.zya | apply Kd.zib)); exact HO0_2.out) (Kd.zxd ho17) hb); have HO185 := zaa.mk (Kd.znd (Kd.R_new' (Kd.R_newM (M := fun k_ => (w.heap.size ≤ k_)) ho17 (zja (by repeat (first | (with_reducible first | exact HB.out | apply zda | apply zba | apply zca | refine zea ?_ GE177.out | refine zea ?_ GE178.out) | exact HB.out))) (fun k_ h_ => h_)) (Kd.R_lt (by (with_reducible repeat (first | apply Kd.zqa | apply Kd.zpa | apply Kd.zsa)); exact HO181.out))) (zja (by repeat (first | (with_reducible first | exact HB.out | apply zda | apply zba | apply zca | refine zea ?_ GE177.out | refine zea ?_ GE178.out) | exact HB.out)))); replace HO181 := zaa.mk (Kd.R_elder' (by (with_reducible repeat (first | apply Kd.zqa | apply Kd.zpa | apply Kd.zsa)); exact HO181.out) (Kd.zxd ho17) hb); replace BK177 := zaa.mk (zna (g := gb177) (o := .cells #[.int .i64 a0_0, .int .i64 a0_1, .slice A0_2 l0_2.length c0_2] 40 (0, 0)) (by (with_reducible repeat (first | refine zga ?_ _ | refine zha ?_ | refine zfa ?_ _)); exact BK177.out) hb); replace BK178 := zaa.mk (zna (g := gb178) (o := .cells #[.int .i64 0, .int .i64 0, .slice none 0 0] 72 (0, 0)) (by (with_reducible repeat (first | refine zga ?_ _ | refine zha ?_ | refine zfa ?_ _)); exact BK178.out) hb); replace HB := zaa.mk (zma (by repeat (first | (with_reducible first | exact HB.out | apply zda | apply zba | apply zca | refine zea ?_ GE177.out | refine zea ?_ GE178.out) | exact HB.out)) hb); clear hb ho17; obtain ⟨Ao18, co18, eo18⟩ := Kd.zfd HO185.out; subst eo18) | ((with_reducible refine zxa (f := 25) rfl ?_); refine zhd (some 15) rfl rfl Tryz.func25 (by kernel_rfl) rfl #[.int .i64 1, .int .i64 6, .slice Ao18 y183.length co18] rfl (by (try simp only [List.map_toArray, List.map_cons, List.map_nil]); first | done | rfl | (simp only [List.length_drop, List.length_take]; rfl)) ?_; (with_reducible refine (zxb.calls 1 6 _ _ y183 t186 _ ?side1 ?side2 A13.out).mono ?_); (case side1 => repeat (first | exact (Kd.zgb HO185.out).2.2 | (with_reducible refine Kd.zrb ?_ _) | (with_reducible refine Kd.zqb ?_ _) | (with_reducible refine Kd.zmc ?_))); (case side2 => exact (Kd.zgb HO185.out).2.1); rintro e w19 ⟨rfl, hb⟩; refine ⟨_, rfl, ?_⟩; replace HO0_2 := zaa.mk (Kd.zqc (by (with_reducible repeat (first | apply Kd.zza | apply Kd.zya | apply Kd.zib)); exact HO0_2.out) hb); replace HO181 := zaa.mk (Kd.zcb (by (with_reducible repeat (first | apply Kd.zqa | apply Kd.zpa | apply Kd.zsa)); exact HO181.out) hb); replace HO185 := zaa.mk (Kd.zcb (by (with_reducible repeat (first | apply Kd.zqa | apply Kd.zpa | apply Kd.zsa)); exact HO185.out) hb); replace BK177 := zaa.mk (zna (g := gb177) (o := .cells #[.int .i64 a0_0, .int .i64 a0_1, .slice A0_2 l0_2.length c0_2] 40 (0, 0)) (by (with_reducible repeat (first | refine zga ?_ _ | refine zha ?_ | refine zfa ?_ _)); exact BK177.out) hb); replace BK178 := zaa.mk (zna (g := gb178) (o := .cells #[.int .i64 0, .int .i64 0, .slice none 0 0] 72 (0, 0)) (by (with_reducible repeat (first | refine zga ?_ _ | refine zha ?_ | refine zfa ?_ _)); exact BK178.out) hb); replace HB := zaa.mk (zma (by repeat (first | (with_reducible first | exact HB.out | apply zda | apply zba | apply zca | refine zea ?_ GE177.out | refine zea ?_ GE178.out) | exact HB.out)) hb); (try clear hb); (try clear hb2); (try clear hk); (try clear hi)))
    go_meet
    case rel => exact ⟨_, (!t186), (by first | rfl | (simp; done) | (simp [*]; done)), H', ⟨by first | omega | exact Nat.le_refl _⟩, ⟨by (with_reducible repeat (first | apply Kd.zza | apply Kd.zya | apply Kd.zib)); exact Kd.zcc HO0_2.out (fun _ hk => ⟨hk.1.1.1.1, ⟨hk.1.1.1.2, hk.1.1.2⟩⟩)⟩, ⟨by (with_reducible repeat (first | refine zga ?_ _ | refine zha ?_ | refine zfa ?_ _)); exact BK177.out⟩, ⟨by (with_reducible repeat (first | refine zga ?_ _ | refine zha ?_ | refine zfa ?_ _)); exact BK178.out⟩, ⟨by repeat (first | (with_reducible first | exact HB.out | apply zda | apply zba | apply zca | refine zea ?_ GE177.out | refine zea ?_ GE178.out) | exact HB.out)⟩⟩
  · replace c12 := Bool.eq_false_iff.mpr c12
    subst c12
    have H1 : (zud.j0 k (!false) a0_0 a0_1 l0_2) = some (r1, r2, r3, r4) := by rw [if_neg (show ¬ (false = true) by decide)] at H; exact H
    clear H
    have H := H1
    clear H1
    have H' := zaa.mk H
    clear H
    go_wp2
    go_meet
    case rel => exact ⟨_, (!false), (by first | rfl | (simp; done) | (simp [*]; done)), H', ⟨by first | omega | exact Nat.le_refl _⟩, ⟨by (with_reducible repeat (first | apply Kd.zza | apply Kd.zya | apply Kd.zib)); exact Kd.zcc HO0_2.out (fun _ hk => ⟨hk.1.1.1, ⟨hk.1.1.2, hk.1.2⟩⟩)⟩, ⟨by (with_reducible repeat (first | refine zga ?_ _ | refine zha ?_ | refine zfa ?_ _)); exact BK177.out⟩, ⟨by (with_reducible repeat (first | refine zga ?_ _ | refine zha ?_ | refine zfa ?_ _)); exact BK178.out⟩, ⟨by repeat (first | (with_reducible first | exact HB.out | apply zda | apply zba | apply zca | refine zea ?_ GE177.out | refine zea ?_ GE178.out) | exact HB.out)⟩⟩
 case rest =>
  clear HC3
  try clear c1
  try clear c2
  try clear p2
  try clear c6
  try clear c12
  try clear c14
  try clear c18
  try clear hcz15_0
  try clear hcz15_1
  try clear hcz15_2
  try clear hcz7_0
  try clear hcz7_1
  try clear hcz7_2
  try clear hfz15_0
  try clear hfz15_1
  try clear hfz15_2
  try clear hfz7_0
  try clear hfz7_1
  try clear hfz7_2
  obtain ⟨kq, x6_2, rfl, HA, HJ2, HO_178002, BK177, BK178, HB⟩ := hcut
  cases kq with
  | zero => exact absurd HA.out (by simp [zud.j0])
  | succ kj2 =>
   have H := HA.out
   clear HA
   simp only [zud.j0] at H
   by_cases c20 : x6_2 = true
   · subst c20
     have H1 : (none) = some (r1, r2, r3, r4) := by rw [if_pos rfl] at H; exact H
     clear H
     have H := H1
     clear H1
     exact absurd H (by simp)
   · replace c20 := Bool.eq_false_iff.mpr c20
     subst c20
     have H1 : (if (l0_2.length : Int) > 3 then (none) else (if (l0_2.length : Int) = 0 then (none) else ((zgd.f l0_2 a0_0 a0_1 l0_2).bind fun t187 => (if t187 = true then (none) else (some (a0_0, a0_1, l0_2, 0)))))) = some (r1, r2, r3, r4) := by rw [if_neg (show ¬ (false = true) by decide)] at H; exact H
     clear H
     have H := H1
     clear H1
     by_cases c21 : (l0_2.length : Int) > 3
     · rw [if_pos c21] at H
       have c21b0 : decide (3 < (l0_2.length : Int)) = true := decide_eq_true c21
       have c21b1 : decide (3 < l0_2.length) = true := decide_eq_true (by omega)
       clear c21
       exact absurd H (by simp)
     · rw [if_neg c21] at H
       have c21b0 : decide (3 < (l0_2.length : Int)) = false := decide_eq_false c21
       have c21b1 : decide (3 < l0_2.length) = false := decide_eq_false (by omega)
       clear c21
       by_cases c22 : (l0_2.length : Int) = 0
       · rw [if_pos c22] at H
         have c22b0 : ((l0_2.length : Int) == 0) = true := beq_iff_eq.mpr c22
         have c22b1 : ((l0_2.length : Int) != 0) = false := bne_eq_false_iff_eq.mpr c22
         clear c22
         exact absurd H (by simp)
       · rw [if_neg c22] at H
         have c22b0 : ((l0_2.length : Int) == 0) = false := beq_eq_false_iff_ne.mpr c22
         have c22b1 : ((l0_2.length : Int) != 0) = true := bne_iff_ne.mpr c22
         have c22b2 : ¬ (l0_2 = []) := fun h_ => c22 (by rw [h_]; rfl)
         replace H := Option.bind_eq_some_iff.mp H
         obtain ⟨t187, A230, H⟩ := H
         replace H : (if t187 = true then (none) else (some (a0_0, a0_1, l0_2, 0))) = some (r1, r2, r3, r4) := H
         have A23 := zaa.mk A230
         clear A230
         by_cases c24 : t187 = true
         · subst c24
           have H1 : (none) = some (r1, r2, r3, r4) := by rw [if_pos rfl] at H; exact H
           clear H
           have H := H1
           clear H1
           exact absurd H (by simp)
         · replace c24 := Bool.eq_false_iff.mpr c24
           subst c24
           have H1 : (some (a0_0, a0_1, l0_2, 0)) = some (r1, r2, r3, r4) := by rw [if_neg (show ¬ (false = true) by decide)] at H; exact H
           clear H
           have H := H1
           clear H1
           simp only [Option.some.injEq, Prod.mk.injEq] at H
           obtain ⟨rfl, rfl, rfl, rfl⟩ := H
           have hnb25 := NB177_178.out
           have hnc25 := NB178_177.out
           have hcz26_0 : wc.cell? ⟨gb177, 0, none⟩ = some (.int .i64 a0_0) := (zla BK177.out 0).trans rfl
           have hcz26_1 : wc.cell? ⟨gb177, 1, none⟩ = some (.int .i64 a0_1) := (zla BK177.out 1).trans rfl
           have hcz26_2 : wc.cell? ⟨gb177, 2, none⟩ = some (.slice A0_2 l0_2.length c0_2) := (zla BK177.out 2).trans rfl
           have hfz26_0 := zka BK177.out 0
           have hfz26_1 := zka BK177.out 1
           have hfz26_2 := zka BK177.out 2
           go_wp2_with (first | ((with_reducible refine zxa (f := 38) rfl ?_); refine zhd (some 34) rfl rfl Tryz.func38 (by kernel_rfl) rfl #[.slice A0_2 l0_2.length c0_2, .func (.func 37) #[] #[.pointer (some ⟨gb177, 0, none⟩)]] rfl (by (try simp only [List.map_toArray, List.map_cons, List.map_nil]); first | done | rfl | (simp only [List.length_drop, List.length_take]; rfl)) ?_; (with_reducible refine (zgd.calls _ _ l0_2 gb177 a0_0 a0_1 A0_2 c0_2 l0_2 false _ ?side1 ?side2 ?side3 ?side4 ?side5 A23.out).mono ?_); (case side1 => repeat (first | exact (Kd.zwd HO_178002.out).2.2 | (with_reducible refine Kd.zrb ?_ _) | (with_reducible refine Kd.zqb ?_ _) | (with_reducible refine Kd.zmc ?_))); (case side2 => exact (Kd.zwd HO_178002.out).2.1); (case side3 => repeat (first | exact (Kd.zwd HO_178002.out).2.2 | (with_reducible refine Kd.zrb ?_ _) | (with_reducible refine Kd.zqb ?_ _) | (with_reducible refine Kd.zmc ?_))); (case side4 => exact (Kd.zwd HO_178002.out).2.1); (case side5 => (with_reducible repeat (first | refine zga ?_ _ | refine zha ?_ | refine zfa ?_ _)); exact BK177.out); rintro e w27 ⟨rfl, hb⟩; refine ⟨_, rfl, ?_⟩; replace HO_178002 := zaa.mk (Kd.zqc (by (with_reducible repeat (first | apply Kd.zza | apply Kd.zya | apply Kd.zib)); exact HO_178002.out) hb); replace BK177 := zaa.mk (zna (g := gb177) (o := .cells #[.int .i64 a0_0, .int .i64 a0_1, .slice A0_2 l0_2.length c0_2] 40 (0, 0)) (by (with_reducible repeat (first | refine zga ?_ _ | refine zha ?_ | refine zfa ?_ _)); exact BK177.out) hb); replace BK178 := zaa.mk (zna (g := gb178) (o := .cells #[.int .i64 0, .int .i64 0, .slice none 0 0] 72 (0, 0)) (by (with_reducible repeat (first | refine zga ?_ _ | refine zha ?_ | refine zfa ?_ _)); exact BK178.out) hb); replace HB := zaa.mk (zma (by repeat (first | (with_reducible first | exact HB.out | apply zda | apply zba | apply zca | refine zea ?_ GE177.out | refine zea ?_ GE178.out) | exact HB.out)) hb); (try clear hb); (try clear hb2); (try clear hk); (try clear hi); have hcz28_0 : w27.cell? ⟨gb177, 0, none⟩ = some (.int .i64 a0_0) := (zla BK177.out 0).trans rfl; have hcz28_1 : w27.cell? ⟨gb177, 1, none⟩ = some (.int .i64 a0_1) := (zla BK177.out 1).trans rfl; have hcz28_2 : w27.cell? ⟨gb177, 2, none⟩ = some (.slice A0_2 l0_2.length c0_2) := (zla BK177.out 2).trans rfl; have hfz28_0 := zka BK177.out 0; have hfz28_1 := zka BK177.out 1; have hfz28_2 := zka BK177.out 2; have hcz29_0 : w27.cell? ⟨gb178, 0, none⟩ = some (.int .i64 0) := (zla BK178.out 0).trans rfl; have hcz29_1 : w27.cell? ⟨gb178, 1, none⟩ = some (.int .i64 0) := (zla BK178.out 1).trans rfl; have hcz29_2 : w27.cell? ⟨gb178, 2, none⟩ = some (.slice none 0 0) := (zla BK178.out 2).trans rfl; have hfz29_0 := zka BK178.out 0; have hfz29_1 := zka BK178.out 1; have hfz29_2 := zka BK178.out 2))
           refine bodyPost_ret (results_ct rfl _ _ gb178 72 #[.int .i64 a0_0, .int .i64 a0_1, .slice A0_2 l0_2.length c0_2] (0, 0) _ rfl (by (with_reducible repeat (first | refine zga ?_ _ | refine zha ?_ | refine zfa ?_ _)); refine zzc (cs := #[.int .i64 a0_0, .int .i64 a0_1, .slice none 0 0]) ?_ 2 _ rfl; (with_reducible repeat (first | refine zga ?_ _ | refine zha ?_ | refine zfa ?_ _)); refine zzc (cs := #[.int .i64 a0_0, .int .i64 0, .slice none 0 0]) ?_ 1 _ rfl; (with_reducible repeat (first | refine zga ?_ _ | refine zha ?_ | refine zfa ?_ _)); refine zzc (cs := #[.int .i64 0, .int .i64 0, .slice none 0 0]) ?_ 0 _ rfl; (with_reducible repeat (first | refine zga ?_ _ | refine zha ?_ | refine zfa ?_ _)); exact BK178.out) Tryz.underlying72 rfl (by kernel_rfl)) rfl ?_
           exact ⟨_, by first | rfl | (simp [zwa, zva] <;> rfl) | (simp [*, zwa, zva] <;> rfl), by (with_reducible repeat (first | apply Kd.zza | apply Kd.zya | apply Kd.zib)); exact Kd.zcc (Kd.zbe (p := ⟨gb178, 2, none⟩) (Kd.zbe (p := ⟨gb178, 1, none⟩) (Kd.zbe (p := ⟨gb178, 0, none⟩) (Kd.zcc HO_178002.out (fun k_ hk => (⟨hk, hk.2.2⟩ : _ ∧ k_ ≠ gb178))) (fun _ hk => hk.2) (.int .i64 a0_0)) (fun _ hk => hk.2) (.int .i64 a0_1)) (fun _ hk => hk.2) (.slice A0_2 l0_2.length c0_2)) (fun _ hk => hk.1.1), by repeat (first | (with_reducible first | exact HB.out | apply zda | apply zba | apply zca | refine zea ?_ GE177.out | refine zea ?_ GE178.out) | exact HB.out)⟩
end Go.Proofs.YtoacbkoenkiahaaGreat.PTopGluePlate
end
section
namespace Go.Proofs.YtoacbkoenkiahaaGreat.PTopGluePlate
open Go.RowKit Go.Proofs.YtoacbkoenkiahaaGreatW.PrintWords Go.Proofs.YtoacbkoenkiahaaGreatW.PrintLast Go.Proofs.YtoacbkoenkiahaaGreatW.PrintMore
attribute [local go_sem] znb zlb zhc zgc zeb zdb zmb zkb
set_option linter.unusedVariables false
set_option linter.unusedSimpArgs false
def print_areShifts.f (l0 : List Int) : Option (Bool) := (zxb.f (-2) 2 l0).bind fun t188 => (some t188)
set_option maxHeartbeats 8000000 in
set_option maxRecDepth 100000 in
theorem print_areShifts.calls (A0 : Option Addr) (c0 : Nat) (l0 : List Int) (r : Bool) (w : World) (hr0 : Kd.C (Kd.int .i64) w A0 l0.length l0) (hc0 : l0.length ≤ c0) (h : print_areShifts.f l0 = some r) :
 Calls Tryz.prog 20 #[.slice A0 l0.length c0] w fun e w' => e = .returned (.bool r) ∧ Below w.heap.size w w' := by
 have HR0 := zaa.mk hr0
 have HC0 := zaa.mk hc0
 clear hr0 hc0
 have HB := zaa.mk (Below.refl w.heap.size w)
 have H : ((zxb.f (-2) 2 l0).bind fun t188 => (some t188)) = some r := h
 clear h
 replace H := Option.bind_eq_some_iff.mp H
 obtain ⟨t188, A20, H⟩ := H
 replace H : (some t188) = some r := H
 have A2 := zaa.mk A20
 clear A20
 obtain rfl := Option.some.inj H
 go_enter Tryz.func20, Tryz.ntmps20
 go_wp2_with (first | ((with_reducible refine zxa (f := 25) rfl ?_); refine zhd (some 4) rfl rfl Tryz.func25 (by kernel_rfl) rfl #[.int .i64 (-2), .int .i64 2, .slice A0 l0.length c0] rfl (by (try simp only [List.map_toArray, List.map_cons, List.map_nil]); first | done | rfl | (simp only [List.length_drop, List.length_take]; rfl)) ?_; (with_reducible refine (zxb.calls (-2) 2 _ _ l0 t188 _ ?side1 ?side2 A2.out).mono ?_); (case side1 => repeat (first | exact HR0.out | (with_reducible refine Kd.zrb ?_ _) | (with_reducible refine Kd.zqb ?_ _) | (with_reducible refine Kd.zmc ?_))); (case side2 => exact HC0.out); rintro e w3 ⟨rfl, hb⟩; refine ⟨_, rfl, ?_⟩; replace HB := zaa.mk (zma (by repeat (first | (with_reducible first | exact HB.out | apply zda | apply zba | apply zca) | exact HB.out)) hb); (try clear hb); (try clear hb2); (try clear hk); (try clear hi)))
 go_ret
 exact ⟨by first | rfl | (simp [zwa, zva] <;> rfl) | (simp [*, zwa, zva] <;> rfl), by repeat (first | (with_reducible first | exact HB.out | apply zda | apply zba | apply zca) | exact HB.out)⟩
end Go.Proofs.YtoacbkoenkiahaaGreat.PTopGluePlate
end
section
namespace Go.Proofs.YtoacbkoenkiahaaGreat.PTopGluePlate
open Go.RowKit Go.Proofs.YtoacbkoenkiahaaGreatW.PrintWords Go.Proofs.YtoacbkoenkiahaaGreatW.PrintLast Go.Proofs.YtoacbkoenkiahaaGreatW.PrintMore
attribute [local go_sem] znb zlb zhc zgc zeb zdb zmb zkb
set_option linter.unusedVariables false
set_option linter.unusedSimpArgs false
def print_Show_1.f (a0_0 : Int) (a0_1 : Int) : Option (Bool) := (print_areShifts.f (([a0_0, a0_1] : List Int))).bind fun t193 => (some (!t193))
set_option maxHeartbeats 8000000 in
set_option maxRecDepth 100000 in
theorem print_Show_1.calls (a0_0 : Int) (a0_1 : Int) (r : Bool) (w : World) (h : print_Show_1.f a0_0 a0_1 = some r) :
 Calls Tryz.prog 19 #[.agg #[.int .i64 a0_0, .int .i64 a0_1]] w fun e w' => e = .returned (.bool r) ∧ Below w.heap.size w w' := by
 have hu45 := Tryz.underlying45
 have HB := zaa.mk (Below.refl w.heap.size w)
 have H : ((print_areShifts.f (([a0_0, a0_1] : List Int))).bind fun t193 => (some (!t193))) = some r := h
 clear h
 obtain ⟨y190, hy190⟩ : ∃ y_ : List Int, y_ = (([a0_0, a0_1] : List Int)) := ⟨_, rfl⟩
 replace H : ((print_areShifts.f y190).bind fun t193 => (some (!t193))) = some r := by first | (rw [hy190]; with_reducible exact H) | (have H2_ := (Option.bind_some _ _).symm.trans H; rw [hy190]; with_reducible exact H2_) | (have H2_ := (Option.bind_some _ _).symm.trans H; with_reducible exact H2_) | with_reducible exact H | (rw [hy190]; exact H) | exact H
 have Ny190 := zaa.mk hy190
 clear hy190
 replace H := Option.bind_eq_some_iff.mp H
 obtain ⟨t193, A20, H⟩ := H
 replace H : (some (!t193)) = some r := H
 have A2 := zaa.mk A20
 clear A20
 obtain rfl := Option.some.inj H
 go_enter Tryz.func19, Tryz.ntmps19
 go_wp2_with (first | ((with_reducible refine zbb (N := 1) rfl ?_); refine zob ?hg (N := 1) ?hd (cs := #[.int .i64 a0_0, .int .i64 a0_1]) (t := 45) ?hr ?_; (case hd => rfl); (case hg => rfl); (case hr => first | (go_simp; done) | (go_simp; rfl)); intro gb189 hg w3 hbox hb; have BK189 := zaa.mk (hbox); have GW189 := zaa.mk ((by rw [hg]; exact (zja (by repeat (first | (with_reducible first | exact HB.out | apply zda | apply zba | apply zca) | exact HB.out))) : w.heap.size ≤ gb189)); have GE189 := zaa.mk ((by rw [hg]; exact (zja (by repeat (first | (with_reducible first | exact HB.out | apply zda | apply zba | apply zca) | exact HB.out))) : w.heap.size ≤ gb189)); replace HB := zaa.mk (zma (by repeat (first | (with_reducible first | exact HB.out | apply zda | apply zba | apply zca) | exact HB.out)) hb); clear hb hbox hg; have hcz4_0 : w3.cell? ⟨gb189, 0, none⟩ = some (.int .i64 a0_0) := (zla BK189.out 0).trans rfl; have hcz4_1 : w3.cell? ⟨gb189, 1, none⟩ = some (.int .i64 a0_1) := (zla BK189.out 1).trans rfl; have hfz4_0 := zka BK189.out 0; have hfz4_1 := zka BK189.out 1) | ((with_reducible refine zbb (N := 7) rfl ?_); refine Kd.R_lit (Kd.int .i64) _ 3 ?hg (N := 7) ?hd (xs := ([a0_0, a0_1] : List Int)) (inner := [.int .i64 a0_0, .int .i64 a0_1]) (ok := fun _ => True) (okp := fun _ => True) ?hr ?hp (fun _ hk => hk) trivial (Below.refl _ _) (Nat.le_refl _) (by simp) ?_; (case hd => rfl); (case hg => rfl); (case hr => first | (go_simp; done) | (go_simp; rfl)); (case hp => exact (Reps.one (show Kd.M (Kd.int .i64) _ _ _ a0_0 [.int .i64 a0_0] from rfl) (Reps.one (show Kd.M (Kd.int .i64) _ _ _ a0_1 [.int .i64 a0_1] from rfl) (Reps.none _ _)))); intro v191 w5 ho6 hb hg_ hnew_; clear hg_ hnew_; (first | rw [← Ny190.out] at ho6 | (simp only [Int.reduceToNat] at ho6; rw [← Ny190.out] at ho6)); have HO192 := zaa.mk (Kd.znd ho6 (zja (by repeat (first | (with_reducible first | exact HB.out | apply zda | apply zba | apply zca | refine zea ?_ GE189.out) | exact HB.out)))); replace BK189 := zaa.mk (zna (g := gb189) (o := .cells #[.int .i64 a0_0, .int .i64 a0_1] 45 (0, 0)) (by (with_reducible repeat (first | refine zga ?_ _ | refine zha ?_ | refine zfa ?_ _)); exact BK189.out) hb); replace HB := zaa.mk (zma (by repeat (first | (with_reducible first | exact HB.out | apply zda | apply zba | apply zca | refine zea ?_ GE189.out) | exact HB.out)) hb); clear hb ho6; obtain ⟨Ao7, co7, eo7⟩ := Kd.zfd HO192.out; subst eo7) | ((with_reducible refine zxa (f := 20) rfl ?_); refine zhd (some 8) rfl rfl Tryz.func20 (by kernel_rfl) rfl #[.slice Ao7 y190.length co7] rfl (by (try simp only [List.map_toArray, List.map_cons, List.map_nil]); first | done | rfl | (simp only [List.length_drop, List.length_take]; rfl)) ?_; (with_reducible refine (print_areShifts.calls _ _ y190 t193 _ ?side1 ?side2 A2.out).mono ?_); (case side1 => repeat (first | exact (Kd.zgb HO192.out).2.2 | (with_reducible refine Kd.zrb ?_ _) | (with_reducible refine Kd.zqb ?_ _) | (with_reducible refine Kd.zmc ?_))); (case side2 => exact (Kd.zgb HO192.out).2.1); rintro e w8 ⟨rfl, hb⟩; refine ⟨_, rfl, ?_⟩; replace HO192 := zaa.mk (Kd.zcb (by (with_reducible repeat (first | apply Kd.zqa | apply Kd.zpa | apply Kd.zsa)); exact HO192.out) hb); replace BK189 := zaa.mk (zna (g := gb189) (o := .cells #[.int .i64 a0_0, .int .i64 a0_1] 45 (0, 0)) (by (with_reducible repeat (first | refine zga ?_ _ | refine zha ?_ | refine zfa ?_ _)); exact BK189.out) hb); replace HB := zaa.mk (zma (by repeat (first | (with_reducible first | exact HB.out | apply zda | apply zba | apply zca | refine zea ?_ GE189.out) | exact HB.out)) hb); (try clear hb); (try clear hb2); (try clear hk); (try clear hi)))
 go_ret
 exact ⟨by first | rfl | (simp [zwa, zva] <;> rfl) | (simp [*, zwa, zva] <;> rfl), by repeat (first | (with_reducible first | exact HB.out | apply zda | apply zba | apply zca | refine zea ?_ GE189.out) | exact HB.out)⟩
end Go.Proofs.YtoacbkoenkiahaaGreat.PTopGluePlate
end
section
namespace Go.Proofs.YtoacbkoenkiahaaGreat.PTopGluePlate
open Go.RowKit Go.Proofs.YtoacbkoenkiahaaGreatW.PrintWords Go.Proofs.YtoacbkoenkiahaaGreatW.PrintLast Go.Proofs.YtoacbkoenkiahaaGreatW.PrintMore
attribute [local go_sem] znb zlb zhc zgc zeb zdb zmb zkb
set_option linter.unusedVariables false
set_option linter.unusedSimpArgs false
def Pred_api_PrintShift_39 (P : Program) (g : Nat) (lb : Array Value) (l : List S45) (p : S45 → Option Bool) (w : World) : Prop :=
 ∀ (W : World) (x : S45), x ∈ l → Below w.heap.size w W → ∀ b, p x = some b → Calls P g (#[.agg #[.int .i64 x.f0, .int .i64 x.f1]] ++ lb) W fun e w' => e = .returned (.bool b) ∧ Below W.heap.size W w'
theorem rd_nat_api_PrintShift (l : List S45) (k : Nat) (h : k < l.length) : rd_T45 l (k : Int) = l[k] := by
 simp [rd_T45, List.getD_eq_getElem?_getD, List.getElem?_eq_getElem h]
set_option maxHeartbeats 2000000 in
set_option maxRecDepth 100000 in
theorem slices_IndexFunc_api_PrintShift.calls (g : Nat) (lb : Array Value) (p : S45 → Option Bool) (A0 : Option Addr) (c0 : Nat) (l0 : List S45) (r : Int) (w : World) (hr0 : Kd.C k45 w A0 l0.length l0) (hc0 : l0.length ≤ c0)
    (eg : ∀ args w, (callFunc g args).run Tryz.prog w = .ok (.enter g args) w) (hp : Pred_api_PrintShift_39 Tryz.prog g lb l0 p w) (h : idxO p l0 0 = some r) :
    Calls Tryz.prog 39 #[.slice A0 l0.length c0, .func (.func g) #[] lb] w fun e w' => e = .returned (.int .i64 r) ∧ Below w.heap.size w w' := by
  have hu45 := Tryz.underlying45
  have HR0 := zaa.mk hr0
  have HB := zaa.mk (Below.refl w.heap.size w)
  have HP := zaa.mk hp
  have HH := zaa.mk h
  have hlen : l0.length ≤ 9223372036854775807 := hr0.2.1
  clear hr0 hc0 hp h
  go_enter Tryz.func39, Tryz.ntmps39
  go_wp2
  go_loopw [8] (fun v8 wr => ∃ kk : Nat, kk ≤ l0.length ∧ v8 = .int .i64 kk ∧ zaa (idxO p (l0.drop kk) kk = some r) ∧ zaa (Below w.heap.size w wr)) (fun v8 _ => l0.length - (intOf v8).toNat)
  case atStart => exact ⟨0, Nat.zero_le _, rfl, ⟨by simpa using HH.out⟩, HB⟩
  case round =>
    obtain ⟨kk, hkk, rfl, HI, HW⟩ := hrel
    by_cases hlt : kk < l0.length
    · have hlz : (kk : Int) < (l0.length : Int) := by omega
      obtain ⟨ad, e0, hx0, hx1⟩ := at_T45 (Kd.zkc HR0.out HW.out) (kk : Int) (by omega) hlz
      cases e0
      rw [rd_nat_api_PrintShift l0 kk hlt] at hx0 hx1
      simp only [Int.toNat_natCast] at hx0 hx1
      have hcall := HP.out wr l0[kk] (List.getElem_mem hlt) HW.out
      have hd := HI.out
      rw [idxO_drop p l0 kk hlt] at hd
      have HD := zaa.mk hd
      clear hd HI
      generalize l0[kk] = y at hx0 hx1 hcall HD
      have HC := zaa.mk hcall
      clear hcall
      cases hq : p y with
      | none => exact absurd HD.out (by rw [hq]; simp)
      | some b =>
        have HC2 := zaa.mk (HC.out b hq)
        clear HC
        cases b with
        | true =>
          go_wp2_with (go_at_fn g; refine HC2.out.mono ?_; rintro e w' ⟨rfl, hb'⟩; have HB' := zaa.mk hb'; clear hb')
          go_ret
          refine ⟨?_, zma HW.out HB'.out⟩
          have h1 := HD.out
          rw [hq] at h1
          have h2 : (kk : Int) = r := by simpa using h1
          rw [← h2]; rfl
        | false =>
          have HI : zaa (idxO p (l0.drop (kk + 1)) (kk + 1) = some r) := ⟨by have h1 := HD.out; rw [hq] at h1; simpa using h1⟩
          go_wp2_with (go_at_fn g; refine HC2.out.mono ?_; rintro e w' ⟨rfl, hb'⟩; have HB' := zaa.mk hb'; clear hb')
          go_roundw
          case rel => exact ⟨kk + 1, by omega, by go_num, HI, ⟨zma HW.out HB'.out⟩⟩
          case measure => simp [intOf]; omega
    · obtain rfl : kk = l0.length := by omega
      go_wp2
      go_ret
      have h1 := HI.out
      rw [List.drop_length] at h1
      exact ⟨by have h2 : (-1 : Int) = r := (by simpa [idxO] using h1); rw [← h2]; rfl, HW.out⟩
end Go.Proofs.YtoacbkoenkiahaaGreat.PTopGluePlate
end
section
namespace Go.Proofs.YtoacbkoenkiahaaGreat.PTopGluePlate
open Go.RowKit Go.Proofs.YtoacbkoenkiahaaGreatW.PrintWords Go.Proofs.YtoacbkoenkiahaaGreatW.PrintLast Go.Proofs.YtoacbkoenkiahaaGreatW.PrintMore
attribute [local go_sem] znb zlb zhc zgc zeb zdb zmb zkb
set_option linter.unusedVariables false
set_option linter.unusedSimpArgs false
def Pred_api_PrintShift_21 (P : Program) (g : Nat) (lb : Array Value) (l : List S45) (p : S45 → Option Bool) (w : World) : Prop :=
 ∀ (W : World) (x : S45), x ∈ l → Below w.heap.size w W → ∀ b, p x = some b → Calls P g (#[.agg #[.int .i64 x.f0, .int .i64 x.f1]] ++ lb) W fun e w' => e = .returned (.bool b) ∧ Below W.heap.size W w'
set_option maxHeartbeats 1000000 in
theorem slices_ContainsFunc_api_PrintShift.calls (g : Nat) (lb : Array Value) (p : S45 → Option Bool) (A0 : Option Addr) (c0 : Nat) (l0 : List S45) (r : Bool) (w : World) (hr0 : Kd.C k45 w A0 l0.length l0) (hc0 : l0.length ≤ c0)
 (eg : ∀ args w, (callFunc g args).run Tryz.prog w = .ok (.enter g args) w) (hp : Pred_api_PrintShift_21 Tryz.prog g lb l0 p w) (h : containsO p l0 = some r) :
 Calls Tryz.prog 21 #[.slice A0 l0.length c0, .func (.func g) #[] lb] w fun e w' => e = .returned (.bool r) ∧ Below w.heap.size w w' := by
 obtain ⟨x, hx, hxr⟩ := containsO_idx p l0 r h
 have H := zaa.mk (slices_IndexFunc_api_PrintShift.calls g lb p A0 c0 l0 x w hr0 hc0 eg hp hx)
 have HX := zaa.mk hxr
 clear hr0 hc0 hp h hx hxr
 go_enter Tryz.func21, Tryz.ntmps21
 go_wp2_with (go_at_call 39; refine H.out.mono ?_; rintro e w' ⟨rfl, hb'⟩; have HB' := zaa.mk hb'; clear hb')
 go_ret
 exact ⟨by rw [← HX.out]; rfl, HB'.out⟩
end Go.Proofs.YtoacbkoenkiahaaGreat.PTopGluePlate
end
section
namespace Go.Proofs.YtoacbkoenkiahaaGreat.PTopGluePlate
open Go.RowKit Go.Proofs.YtoacbkoenkiahaaGreatW.PrintWords Go.Proofs.YtoacbkoenkiahaaGreatW.PrintLast Go.Proofs.YtoacbkoenkiahaaGreatW.PrintMore
attribute [local go_sem] znb zlb zhc zgc zeb zdb zmb zkb
set_option linter.unusedVariables false
set_option linter.unusedSimpArgs false
def zjb.l0 : Nat → List Int → List Int → Int → Int → Int → Int → List (List Int) → Int → Int → Option (List Int)
 | 0, _, _, _, _, _, _, _, _, _ => none
 | k + 1, x7, x15, x16, x17, x195000, x195001, x195002, x196000, x196001 => if x17 < x16 then (if 0 ≤ x17 then (if x17 < (x15.length : Int) then (if (wrap64 (x17 + x196001)) ≥ 0 then (if (wrap64 (x17 + x196001)) < x195001 then (if 0 ≤ x195000 then (if 0 ≤ (wrap64 (x17 + x196001)) then (if (wrap64 (x17 + x196001)) < (x7.length : Int) then (zjb.l0 k (x7.set ((wrap64 (x17 + x196001)) : Int).toNat (Go.bits .and .i64 (shr .i64 (shl .i64 (rd x15 x17) (mx x196000 0)) (mx (wrap64 (-x196000)) 0)) (wrap64 ((shl .i64 1 x195000) - 1)))) x15 x16 (wrap64 (x17 + 1)) x195000 x195001 x195002 x196000 x196001) else (none)) else (none)) else (none)) else (zjb.l0 k x7 x15 x16 (wrap64 (x17 + 1)) x195000 x195001 x195002 x196000 x196001)) else (zjb.l0 k x7 x15 x16 (wrap64 (x17 + 1)) x195000 x195001 x195002 x196000 x196001)) else (none)) else (none)) else (some x7)
def zjb.f (k : Nat) (a0_0 : Int) (a0_1 : Int) (l0_2 : List (List Int)) (l1 : List Int) (a2_0 : Int) (a2_1 : Int) : Option (List Int) := if 0 ≤ a0_1 then (if (a0_1 : Int).toNat ≤ 35184372088832 then (zjb.l0 k (List.replicate (a0_1 : Int).toNat 0) l1 (l1.length : Int) 0 a0_0 a0_1 l0_2 a2_0 a2_1) else (none)) else (none)
def zjb.T7 : Bool × List (List Nat × List Nat) := (true, [([], []), ([], []), ([], []), ([], []), ([3], [3]), ([4], [4]), ([2, 5], [2, 5]), ([], []), ([7], [7]), ([8], [8]), ([9], [9]), ([6, 10], [6, 10]), ([], []), ([12], [12]), ([13], [13]), ([14], [14]), ([15], [15]), ([11, 16], [11, 16]), ([0, 1, 0, 1, 2, 3, 4, 5, 6, 7, 8, 9, 10, 11, 12, 13, 14, 15, 16, 17], [0, 1]), ([18, 17, 0, 1, 2, 3, 4, 5, 6, 7, 8, 9, 10, 11, 12, 13, 14, 15, 16, 17], [17, 18])])
def zjb.B7 : List Nat := [0, 0, 0, 0, 8, 24, 60, 0, 128, 384, 896, 2044, 0, 4096, 12288, 28672, 61440, 131068, 262143, 524287]
theorem zjb.tab7 : rtab .any (opsOf Tryz.f22 7) = zjb.T7 := by kernel_rfl
theorem zjb.bits7 : waitsOk zjb.T7.2 zjb.B7 = true := by kernel_rfl
set_option maxHeartbeats 8000000 in
set_option maxRecDepth 100000 in
theorem zjb.calls (k : Nat) (a0_0 : Int) (a0_1 : Int) (A0_2 : Option Addr) (c0_2 : Nat) (l0_2 : List (List Int)) (A1 : Option Addr) (c1 : Nat) (l1 : List Int) (a2_0 : Int) (a2_1 : Int) (r : List Int) (w : World) (hr0_2 : Kd.C (Kd.slice 3 (Kd.int .i64)) w A0_2 l0_2.length l0_2) (hc0_2 : l0_2.length ≤ c0_2) (hr1 : Kd.C (Kd.int .i64) w A1 l1.length l1) (hc1 : l1.length ≤ c1) (h : zjb.f k a0_0 a0_1 l0_2 l1 a2_0 a2_1 = some r) :
 Calls Tryz.prog 22 #[.agg #[.int .i64 a0_0, .int .i64 a0_1, .slice A0_2 l0_2.length c0_2], .slice A1 l1.length c1, .agg #[.int .i64 a2_0, .int .i64 a2_1]] w fun e w' => ∃ v0_ : Value, e = .returned (v0_) ∧ Kd.R (Kd.int .i64) 3 w' w.heap.size (fun _ => True) v0_ r ∧ Below w.heap.size w w' := by
 have hu72 := Tryz.underlying72
 have hu45 := Tryz.underlying45
 have HR0_2 := zaa.mk hr0_2
 have HC0_2 := zaa.mk hc0_2
 clear hr0_2 hc0_2
 have HR1 := zaa.mk hr1
 have HC1 := zaa.mk hc1
 clear hr1 hc1
 have HB := zaa.mk (Below.refl w.heap.size w)
 have H : (if 0 ≤ a0_1 then (if (a0_1 : Int).toNat ≤ 35184372088832 then (zjb.l0 k (List.replicate (a0_1 : Int).toNat 0) l1 (l1.length : Int) 0 a0_0 a0_1 l0_2 a2_0 a2_1) else (none)) else (none)) = some r := h
 clear h
 by_cases c4 : 0 ≤ a0_1
 · rw [if_pos c4] at H
   have c4b0 := eq_true c4
   have c4b1 : decide (0 ≤ a0_1) = true := decide_eq_true c4
   clear c4
   by_cases c5 : (a0_1 : Int).toNat ≤ 35184372088832
   · rw [if_pos c5] at H
     have c5b0 := eq_true c5
     have c5b1 : decide ((a0_1 : Int).toNat ≤ 35184372088832) = true := decide_eq_true c5
     clear c5
     obtain ⟨y196, hy196⟩ : ∃ y_ : List Int, y_ = (List.replicate (a0_1 : Int).toNat 0) := ⟨_, rfl⟩
     replace H : (zjb.l0 k y196 l1 (l1.length : Int) 0 a0_0 a0_1 l0_2 a2_0 a2_1) = some r := by first | (rw [hy196]; with_reducible exact H) | (have H2_ := (Option.bind_some _ _).symm.trans H; rw [hy196]; with_reducible exact H2_) | (have H2_ := (Option.bind_some _ _).symm.trans H; with_reducible exact H2_) | with_reducible exact H | (rw [hy196]; exact H) | exact H
     have Ny196 := zaa.mk hy196
     clear hy196
     have H' := zaa.mk H
     clear H
     go_enter Tryz.func22, Tryz.ntmps22
     go_wp2_with (first | ((with_reducible refine zbb (N := 3) rfl ?_); refine zob ?hg (N := 3) ?hd (cs := #[.int .i64 a0_0, .int .i64 a0_1, .slice A0_2 l0_2.length c0_2]) (t := 72) ?hr ?_; (case hd => rfl); (case hg => rfl); (case hr => first | (go_simp; done) | (go_simp; rfl)); intro gb194 hg w6 hbox hb; have BK194 := zaa.mk (hbox); have GW194 := zaa.mk ((by rw [hg]; exact (zja (by repeat (first | (with_reducible first | exact HB.out | apply zda | apply zba | apply zca) | exact HB.out))) : w.heap.size ≤ gb194)); have GE194 := zaa.mk ((by rw [hg]; exact (zja (by repeat (first | (with_reducible first | exact HB.out | apply zda | apply zba | apply zca) | exact HB.out))) : w.heap.size ≤ gb194)); replace HB := zaa.mk (zma (by repeat (first | (with_reducible first | exact HB.out | apply zda | apply zba | apply zca) | exact HB.out)) hb); clear hb hbox hg) | ((with_reducible refine zbb (N := 5) rfl ?_); refine zob ?hg (N := 5) ?hd (cs := #[.int .i64 a2_0, .int .i64 a2_1]) (t := 45) ?hr ?_; (case hd => rfl); (case hg => rfl); (case hr => first | (go_simp; done) | (go_simp; rfl)); intro gb195 hg w7 hbox hb; have BK195 := zaa.mk (hbox); have GW195 := zaa.mk ((by rw [hg]; exact (zja (by repeat (first | (with_reducible first | exact HB.out | apply zda | apply zba | apply zca | refine zea ?_ GE194.out) | exact HB.out))) : w.heap.size ≤ gb195)); have GE195 := zaa.mk ((by rw [hg]; exact (zja (by repeat (first | (with_reducible first | exact HB.out | apply zda | apply zba | apply zca | refine zea ?_ GE194.out) | exact HB.out))) : w.heap.size ≤ gb195)); replace HB := zaa.mk (zma (by repeat (first | (with_reducible first | exact HB.out | apply zda | apply zba | apply zca | refine zea ?_ GE194.out) | exact HB.out)) hb); have NB194_195 := zaa.mk ((by rw [hg]; exact Nat.ne_of_lt (zbc (g := gb194) (o := .cells #[.int .i64 a0_0, .int .i64 a0_1, .slice A0_2 l0_2.length c0_2] 72 (0, 0)) (by (with_reducible repeat (first | refine zga ?_ _ | refine zha ?_ | refine zfa ?_ _)); exact BK194.out)) : gb194 ≠ gb195)); have NB195_194 := zaa.mk ((by rw [hg]; exact Nat.ne_of_gt (zbc (g := gb194) (o := .cells #[.int .i64 a0_0, .int .i64 a0_1, .slice A0_2 l0_2.length c0_2] 72 (0, 0)) (by (with_reducible repeat (first | refine zga ?_ _ | refine zha ?_ | refine zfa ?_ _)); exact BK194.out)) : gb195 ≠ gb194)); replace BK194 := zaa.mk (zna (g := gb194) (o := .cells #[.int .i64 a0_0, .int .i64 a0_1, .slice A0_2 l0_2.length c0_2] 72 (0, 0)) (by (with_reducible repeat (first | refine zga ?_ _ | refine zha ?_ | refine zfa ?_ _)); exact BK194.out) hb); clear hb hbox hg; have hnb8 := NB194_195.out; have hnc8 := NB195_194.out; have hcz9_0 : w7.cell? ⟨gb194, 0, none⟩ = some (.int .i64 a0_0) := (zla BK194.out 0).trans rfl; have hcz9_1 : w7.cell? ⟨gb194, 1, none⟩ = some (.int .i64 a0_1) := (zla BK194.out 1).trans rfl; have hcz9_2 : w7.cell? ⟨gb194, 2, none⟩ = some (.slice A0_2 l0_2.length c0_2) := (zla BK194.out 2).trans rfl; have hfz9_0 := zka BK194.out 0; have hfz9_1 := zka BK194.out 1; have hfz9_2 := zka BK194.out 2) | ((with_reducible refine zbb (N := 14) rfl ?_); refine Kd.R_make (Kd.int .i64) _ 3 rfl (N := 14) rfl 79 _ _ rfl a0_1 rfl rfl Tryz.underlying79 (.int .i64 0) 8 info3 rfl (by decide) (by omega) 0 (ok := fun _ => True) (okp := fun _ => True) rfl (fun _ hk => hk) trivial (of_decide_eq_true (by first | (with_reducible assumption) | assumption)) (Nat.le_trans (Nat.mul_le_mul_right _ (of_decide_eq_true (by first | (with_reducible assumption) | assumption) : a0_1.toNat ≤ 35184372088832)) (by omega)) (Below.refl _ _) (Nat.le_refl _) ?_; intro v197 w10 ho11 hb hg_ hnew_; clear hg_ hnew_; (first | rw [← Ny196.out] at ho11 | (simp only [Int.reduceToNat] at ho11; rw [← Ny196.out] at ho11)); have HO198 := zaa.mk (Kd.znd ho11 (zja (by repeat (first | (with_reducible first | exact HB.out | apply zda | apply zba | apply zca | refine zea ?_ GE194.out | refine zea ?_ GE195.out) | exact HB.out)))); replace BK194 := zaa.mk (zna (g := gb194) (o := .cells #[.int .i64 a0_0, .int .i64 a0_1, .slice A0_2 l0_2.length c0_2] 72 (0, 0)) (by (with_reducible repeat (first | refine zga ?_ _ | refine zha ?_ | refine zfa ?_ _)); exact BK194.out) hb); replace BK195 := zaa.mk (zna (g := gb195) (o := .cells #[.int .i64 a2_0, .int .i64 a2_1] 45 (0, 0)) (by (with_reducible repeat (first | refine zga ?_ _ | refine zha ?_ | refine zfa ?_ _)); exact BK195.out) hb); replace HB := zaa.mk (zma (by repeat (first | (with_reducible first | exact HB.out | apply zda | apply zba | apply zca | refine zea ?_ GE194.out | refine zea ?_ GE195.out) | exact HB.out)) hb); clear hb ho11))
     go_loopg [17] k (fun kq v17 w' => ∃ (x7_1 : List Int) (x17_1 : Int), v17 = .int .i64 x17_1 ∧ zaa (zjb.l0 kq x7_1 l1 (l1.length : Int) x17_1 a0_0 a0_1 l0_2 a2_0 a2_1 = some r) ∧ zaa (kq ≤ k) ∧ zaa (Kd.R (Kd.int .i64) 3 w' w.heap.size (fun _ => True) v197 x7_1) ∧ zaa (w'.heap[gb194]? = some (.cells #[.int .i64 a0_0, .int .i64 a0_1, (.slice A0_2 l0_2.length c0_2)] 72 (0, 0))) ∧ zaa (w'.heap[gb195]? = some (.cells #[.int .i64 a2_0, .int .i64 a2_1] 45 (0, 0))) ∧ zaa (Below w.heap.size w w'))
     case atStart => exact ⟨(y196), (0), (by first | rfl | (simp; done) | (simp [*]; done)), H', ⟨Nat.le_refl _⟩, ⟨by (with_reducible repeat (first | apply Kd.zqa | apply Kd.zpa | apply Kd.zsa)); exact HO198.out⟩, ⟨by (with_reducible repeat (first | refine zga ?_ _ | refine zha ?_ | refine zfa ?_ _)); exact BK194.out⟩, ⟨by (with_reducible repeat (first | refine zga ?_ _ | refine zha ?_ | refine zfa ?_ _)); exact BK195.out⟩, ⟨by repeat (first | (with_reducible first | exact HB.out | apply zda | apply zba | apply zca | refine zea ?_ GE194.out | refine zea ?_ GE195.out) | exact HB.out)⟩⟩
     case round =>
      clear H'
      try clear c1
      try clear c2
      try clear p2
      try clear c4
      try clear c4b0
      try clear c4b1
      try clear c5
      try clear c5b0
      try clear c5b1
      try clear c8
      try clear hcz9_0
      try clear hcz9_1
      try clear hcz9_2
      try clear hfz9_0
      try clear hfz9_1
      try clear hfz9_2
      obtain ⟨x7_1, x17_1, rfl, HA, HK1, HO_7, BK194, BK195, HB⟩ := hrel
      cases gk with
      | zero => exact absurd HA.out (by simp [zjb.l0])
      | succ k1 =>
       have H := HA.out
       clear HA
       simp only [zjb.l0] at H
       by_cases c12 : x17_1 < (l1.length : Int)
       · rw [if_pos c12] at H
         have c12b0 : decide (x17_1 < (l1.length : Int)) = true := decide_eq_true c12
         clear c12
         by_cases c13 : 0 ≤ x17_1
         · rw [if_pos c13] at H
           have c13b0 : decide (0 ≤ x17_1) = true := decide_eq_true c13
           clear c13
           by_cases c14 : x17_1 < (l1.length : Int)
           · rw [if_pos c14] at H
             have c14b0 : decide (x17_1 < (l1.length : Int)) = true := decide_eq_true c14
             clear c14
             by_cases c15 : (wrap64 (x17_1 + a2_1)) ≥ 0
             · rw [if_pos c15] at H
               have c15b0 : decide (0 ≤ (wrap64 (x17_1 + a2_1))) = true := decide_eq_true c15
               clear c15
               by_cases c16 : (wrap64 (x17_1 + a2_1)) < a0_1
               · rw [if_pos c16] at H
                 have c16b0 : decide ((wrap64 (x17_1 + a2_1)) < a0_1) = true := decide_eq_true c16
                 clear c16
                 obtain ⟨ji17, hji17⟩ : ∃ j_ : Int, (mx a2_0 0) = j_ := ⟨_, rfl⟩
                 replace H : (if 0 ≤ a0_0 then (if 0 ≤ (wrap64 (x17_1 + a2_1)) then (if (wrap64 (x17_1 + a2_1)) < (x7_1.length : Int) then (zjb.l0 k1 (x7_1.set ((wrap64 (x17_1 + a2_1)) : Int).toNat (Go.bits .and .i64 (shr .i64 (shl .i64 (rd l1 x17_1) (ji17)) (mx (wrap64 (-a2_0)) 0)) (wrap64 ((shl .i64 1 a0_0) - 1)))) l1 (l1.length : Int) (wrap64 (x17_1 + 1)) a0_0 a0_1 l0_2 a2_0 a2_1) else (none)) else (none)) else (none)) = some r := by first | (rw [hji17] at H; exact H) | (simp only [hji17] at H ⊢; exact H)
                 have hji17_ : (if a2_0 < 0 then 0 else a2_0) = ji17 := hji17
                 have hji17n : 0 ≤ ji17 := by rw [← hji17_]; split <;> omega
                 obtain ⟨ji18, hji18⟩ : ∃ j_ : Int, (shl .i64 (rd l1 x17_1) (ji17)) = j_ := ⟨_, rfl⟩
                 replace H : (if 0 ≤ a0_0 then (if 0 ≤ (wrap64 (x17_1 + a2_1)) then (if (wrap64 (x17_1 + a2_1)) < (x7_1.length : Int) then (zjb.l0 k1 (x7_1.set ((wrap64 (x17_1 + a2_1)) : Int).toNat (Go.bits .and .i64 (shr .i64 (ji18) (mx (wrap64 (-a2_0)) 0)) (wrap64 ((shl .i64 1 a0_0) - 1)))) l1 (l1.length : Int) (wrap64 (x17_1 + 1)) a0_0 a0_1 l0_2 a2_0 a2_1) else (none)) else (none)) else (none)) = some r := by first | (rw [hji18] at H; exact H) | (simp only [hji18] at H ⊢; exact H)
                 have hji18_ : (IntKind.i64.wrap ((rd l1 x17_1) * 2 ^ min (ji17).toNat 64)) = ji18 := hji18
                 have hji18z : (ji17) ≤ 64 → (IntKind.i64.wrap ((rd l1 x17_1) * 2 ^ (ji17).toNat)) = ji18 := shl_small hji18
                 have hji18y : (wrap64 ((rd l1 x17_1) * 2 ^ min (ji17).toNat 64)) = ji18 := (zpb _).symm.trans hji18_
                 have hji18x : (ji17) ≤ 64 → (wrap64 ((rd l1 x17_1) * 2 ^ (ji17).toNat)) = ji18 := fun h_ => (zpb _).symm.trans (hji18z h_)
                 obtain ⟨ji19, hji19⟩ : ∃ j_ : Int, (mx (wrap64 (-a2_0)) 0) = j_ := ⟨_, rfl⟩
                 replace H : (if 0 ≤ a0_0 then (if 0 ≤ (wrap64 (x17_1 + a2_1)) then (if (wrap64 (x17_1 + a2_1)) < (x7_1.length : Int) then (zjb.l0 k1 (x7_1.set ((wrap64 (x17_1 + a2_1)) : Int).toNat (Go.bits .and .i64 (shr .i64 (ji18) (ji19)) (wrap64 ((shl .i64 1 a0_0) - 1)))) l1 (l1.length : Int) (wrap64 (x17_1 + 1)) a0_0 a0_1 l0_2 a2_0 a2_1) else (none)) else (none)) else (none)) = some r := by first | (rw [hji19] at H; exact H) | (simp only [hji19] at H ⊢; exact H)
                 have hji19_ : (if (wrap64 (-a2_0)) < 0 then 0 else (wrap64 (-a2_0))) = ji19 := hji19
                 have hji19n : 0 ≤ ji19 := by rw [← hji19_]; split <;> omega
                 obtain ⟨ji20, hji20⟩ : ∃ j_ : Int, (shr .i64 (ji18) (ji19)) = j_ := ⟨_, rfl⟩
                 replace H : (if 0 ≤ a0_0 then (if 0 ≤ (wrap64 (x17_1 + a2_1)) then (if (wrap64 (x17_1 + a2_1)) < (x7_1.length : Int) then (zjb.l0 k1 (x7_1.set ((wrap64 (x17_1 + a2_1)) : Int).toNat (Go.bits .and .i64 (ji20) (wrap64 ((shl .i64 1 a0_0) - 1)))) l1 (l1.length : Int) (wrap64 (x17_1 + 1)) a0_0 a0_1 l0_2 a2_0 a2_1) else (none)) else (none)) else (none)) = some r := by first | (rw [hji20] at H; exact H) | (simp only [hji20] at H ⊢; exact H)
                 have hji20_ : ((ji18) / 2 ^ min (ji19).toNat 64) = ji20 := hji20
                 have hji20z : (ji19) ≤ 64 → ((ji18) / 2 ^ (ji19).toNat) = ji20 := shr_small hji20
                 by_cases c21 : 0 ≤ a0_0
                 · rw [if_pos c21] at H
                   have c21b0 := eq_true c21
                   have c21b1 : decide (0 ≤ a0_0) = true := decide_eq_true c21
                   clear c21
                   obtain ⟨ji22, hji22⟩ : ∃ j_ : Int, (shl .i64 1 a0_0) = j_ := ⟨_, rfl⟩
                   replace H : (if 0 ≤ (wrap64 (x17_1 + a2_1)) then (if (wrap64 (x17_1 + a2_1)) < (x7_1.length : Int) then (zjb.l0 k1 (x7_1.set ((wrap64 (x17_1 + a2_1)) : Int).toNat (Go.bits .and .i64 (ji20) (wrap64 ((ji22) - 1)))) l1 (l1.length : Int) (wrap64 (x17_1 + 1)) a0_0 a0_1 l0_2 a2_0 a2_1) else (none)) else (none)) = some r := by first | (rw [hji22] at H; exact H) | (simp only [hji22] at H ⊢; exact H)
                   have hji22_ : (IntKind.i64.wrap (1 * 2 ^ min a0_0.toNat 64)) = ji22 := hji22
                   have hji22z : a0_0 ≤ 64 → (IntKind.i64.wrap (1 * 2 ^ a0_0.toNat)) = ji22 := shl_small hji22
                   have hji22u : (IntKind.i64.wrap (2 ^ min a0_0.toNat 64)) = ji22 := by have h_ := hji22_; rw [Int.one_mul] at h_; exact h_
                   have hji22v : a0_0 ≤ 64 → (IntKind.i64.wrap (2 ^ a0_0.toNat)) = ji22 := fun hle_ => by have h_ := hji22z hle_; rw [Int.one_mul] at h_; exact h_
                   have hji22y : (wrap64 (1 * 2 ^ min a0_0.toNat 64)) = ji22 := (zpb _).symm.trans hji22_
                   have hji22x : a0_0 ≤ 64 → (wrap64 (1 * 2 ^ a0_0.toNat)) = ji22 := fun h_ => (zpb _).symm.trans (hji22z h_)
                   obtain ⟨ji23, hji23⟩ : ∃ j_ : Int, (wrap64 (x17_1 + a2_1)) = j_ := ⟨_, rfl⟩
                   replace H : (if 0 ≤ (ji23) then (if (ji23) < (x7_1.length : Int) then (zjb.l0 k1 (x7_1.set ((ji23) : Int).toNat (Go.bits .and .i64 (ji20) (wrap64 ((ji22) - 1)))) l1 (l1.length : Int) (wrap64 (x17_1 + 1)) a0_0 a0_1 l0_2 a2_0 a2_1) else (none)) else (none)) = some r := by first | (rw [hji23] at H; exact H) | (simp only [hji23] at H ⊢; exact H)
                   (try rw [hji23] at c15b0)
                   (try rw [hji23] at c16b0)
                   have hji23w : (IntKind.i64.wrap (x17_1 + a2_1)) = ji23 := (zpb _).trans hji23
                   by_cases c24 : 0 ≤ (ji23)
                   · rw [if_pos c24] at H
                     have c24b0 : decide (0 ≤ (ji23)) = true := decide_eq_true c24
                     clear c24
                     by_cases c25 : (ji23) < (x7_1.length : Int)
                     · rw [if_pos c25] at H
                       have c25b0 : decide ((ji23) < (x7_1.length : Int)) = true := decide_eq_true c25
                       clear c25
                       obtain ⟨y200, hy200⟩ : ∃ y_ : List Int, y_ = (x7_1.set ((ji23) : Int).toNat (Go.bits .and .i64 (ji20) (wrap64 ((ji22) - 1)))) := ⟨_, rfl⟩
                       replace H : (zjb.l0 k1 y200 l1 (l1.length : Int) (wrap64 (x17_1 + 1)) a0_0 a0_1 l0_2 a2_0 a2_1) = some r := by first | (rw [hy200]; with_reducible exact H) | (have H2_ := (Option.bind_some _ _).symm.trans H; rw [hy200]; with_reducible exact H2_) | (have H2_ := (Option.bind_some _ _).symm.trans H; with_reducible exact H2_) | with_reducible exact H | (rw [hy200]; exact H) | exact H
                       have Ny200 := zaa.mk hy200
                       clear hy200
                       have H' := zaa.mk H
                       clear H
                       have p199 : 0 ≤ (x17_1 : Int) := of_decide_eq_true (by first | (with_reducible assumption) | assumption)
                       have q199 : x17_1 < (l1.length : Int) := of_decide_eq_true (by first | (with_reducible assumption) | assumption)
                       obtain ⟨ad199, e199, hx199_0⟩ := Kd.at_int HR1.out x17_1 p199 q199
                       cases e199
                       replace hx199_0 := (HB.out.cell (World.block_lt_of_cell? w _ hx199_0)).trans hx199_0
                       replace p199 := eq_true p199
                       replace q199 := eq_true q199
                       have hnb27 := NB195_194.out
                       have hnc27 := NB194_195.out
                       have hcz28_0 : wr.cell? ⟨gb195, 0, none⟩ = some (.int .i64 a2_0) := (zla BK195.out 0).trans rfl
                       have hcz28_1 : wr.cell? ⟨gb195, 1, none⟩ = some (.int .i64 a2_1) := (zla BK195.out 1).trans rfl
                       have hfz28_0 := zka BK195.out 0
                       have hfz28_1 := zka BK195.out 1
                       have hcz29_0 : wr.cell? ⟨gb194, 0, none⟩ = some (.int .i64 a0_0) := (zla BK194.out 0).trans rfl
                       have hcz29_1 : wr.cell? ⟨gb194, 1, none⟩ = some (.int .i64 a0_1) := (zla BK194.out 1).trans rfl
                       have hcz29_2 : wr.cell? ⟨gb194, 2, none⟩ = some (.slice A0_2 l0_2.length c0_2) := (zla BK194.out 2).trans rfl
                       have hfz29_0 := zka BK194.out 0
                       have hfz29_1 := zka BK194.out 1
                       have hfz29_2 := zka BK194.out 2
                       try go_wp2
                       replace HO_7 := zaa.mk (Kd.zsa HO_7.out)
                       replace BK194 := zaa.mk (zha BK194.out)
                       replace BK195 := zaa.mk (zha BK195.out)
                       replace HB := zaa.mk (zca HB.out)
                       have p26 : 0 ≤ ((ji23) : Int) := of_decide_eq_true (by first | (with_reducible assumption) | assumption)
                       have q26 : ((ji23) : Int) < ((x7_1.length : Int) : Int) := of_decide_eq_true (by first | (with_reducible assumption) | assumption)
                       obtain ⟨go26, co26, eo26, gb26, gl26, cl26, HG26⟩ := Kd.R_form HO_7.out (by omega)
                       (first | cases eo26 | (injection eo26 with ea_ en_ ec_; (first | subst ea_ | (injection ea_ with ea_; subst ea_)); subst ec_; clear en_))
                       have GB26 := zaa.mk gb26
                       have GG26 := zaa.mk HG26
                       clear gb26 gl26 HG26
                       obtain ⟨hx26_0, hf26_0⟩ := Kd.R_celln 0 HO_7.out ((ji23) : Int) p26 q26
                       replace p26 := eq_true p26
                       replace q26 := eq_true q26
                       have HP31 := Kd.R_putn HO_7.out ((ji23) : Int) (Go.bits .and .i64 (ji20) (wrap64 ((ji22) - 1)))
                       rw [← Ny200.out] at HP31
                       have HQ31 := zaa.mk HP31
                       clear HP31
                       refine start_ (n := 20) (S := fun w' => w'.cell? ⟨gb195, 0, none⟩ = some (.int .i64 a2_0) ∧ w'.cell? ⟨gb195, 1, none⟩ = some (.int .i64 a2_1) ∧ w'.cell? ⟨gb194, 0, none⟩ = some (.int .i64 a0_0) ∧ w'.cell? ⟨gb194, 1, none⟩ = some (.int .i64 a0_1) ∧ w'.cell? ⟨gb194, 2, none⟩ = some (.slice A0_2 l0_2.length c0_2)) (ds := [19]) #[false, false, false, false, false, false, false, false, false, false, false, false, false, false, false, false, false, false, false, false] (by kernel_rfl) rfl rfl ⟨(zla BK195.out 0).trans rfl, (zla BK195.out 1).trans rfl, (zla BK194.out 0).trans rfl, (zla BK194.out 1).trans rfl, (zla BK194.out 2).trans rfl⟩ (fun hHeld => ?_); refine with_tabW zjb.tab7 zjb.bits7 (fun HT_ HW_ => ?_)
                       generalize wr.drew = w30 at HO_7 BK194 BK195 HB GG26 HQ31 hf26_0 hx26_0 hHeld ⊢
                       refine zxc (i := 0) (N := some 35) (v := ?_) (a' := ?_) #[true, false, false, false, false, false, false, false, false, false, false, false, false, false, false, false, false, false, false, false] rfl rfl (zyb HT_.out (by kernel_rfl)) (fun _ _ _ h => h) (Or.inl ⟨by rfl, ?_⟩) ?_ ?_
                       rotate_left
                       · intro w'
                         go_simp
                         with_reducible rfl
                       rotate_left
                       · simp only [Act.put, List.setIfInBounds_toArray, List.set_cons_zero, List.set_cons_succ, zpb, zzb]
                         rfl
                       refine zxc (i := 1) (N := some 36) (v := ?_) (a' := ?_) #[true, true, false, false, false, false, false, false, false, false, false, false, false, false, false, false, false, false, false, false] rfl rfl (zyb HT_.out (by kernel_rfl)) (fun _ _ _ h => h) (Or.inl ⟨by rfl, ?_⟩) ?_ ?_
                       rotate_left
                       · intro w'
                         go_simp
                         with_reducible rfl
                       rotate_left
                       · simp only [Act.put, List.setIfInBounds_toArray, List.set_cons_zero, List.set_cons_succ, zpb, zzb]
                         rfl
                       refine zxc (i := 2) (N := some 37) (v := ?_) (a' := ?_) #[true, true, true, false, false, false, false, false, false, false, false, false, false, false, false, false, false, false, false, false] rfl rfl (zyb HT_.out (by kernel_rfl)) (fun _ _ _ h => h) (Or.inl ⟨by rfl, ?_⟩) ?_ ?_
                       rotate_left
                       · intro w'
                         go_simp
                         with_reducible rfl
                       rotate_left
                       · simp only [Act.put, List.setIfInBounds_toArray, List.set_cons_zero, List.set_cons_succ, zpb, zzb]
                         rfl
                       refine zxc (i := 3) (N := some 38) (v := ?_) (a' := ?_) #[true, true, true, true, false, false, false, false, false, false, false, false, false, false, false, false, false, false, false, false] rfl rfl (zyb HT_.out (by kernel_rfl)) (fun _ _ _ h => h) (Or.inl ⟨by rfl, ?_⟩) ?_ ?_
                       rotate_left
                       · intro w'
                         go_simp
                         with_reducible rfl
                       rotate_left
                       · simp only [Act.put, List.setIfInBounds_toArray, List.set_cons_zero, List.set_cons_succ, zpb, zzb]
                         rfl
                       refine zxc (i := 7) (N := some 42) (v := ?_) (a' := ?_) #[true, true, true, true, false, false, false, true, false, false, false, false, false, false, false, false, false, false, false, false] rfl rfl (zyb HT_.out (by kernel_rfl)) (fun _ _ _ h => h) (Or.inl ⟨by rfl, ?_⟩) ?_ ?_
                       rotate_left
                       · intro w'
                         go_simp
                         with_reducible rfl
                       rotate_left
                       · simp only [Act.put, List.setIfInBounds_toArray, List.set_cons_zero, List.set_cons_succ, zpb, zzb]
                         rfl
                       refine zxc (i := 12) (N := some 47) (v := ?_) (a' := ?_) #[true, true, true, true, false, false, false, true, false, false, false, false, true, false, false, false, false, false, false, false] rfl rfl (zyb HT_.out (by kernel_rfl)) (fun _ _ _ h => h) (Or.inl ⟨by rfl, ?_⟩) ?_ ?_
                       rotate_left
                       · intro w'
                         go_simp
                         with_reducible rfl
                       rotate_left
                       · simp only [Act.put, List.setIfInBounds_toArray, List.set_cons_zero, List.set_cons_succ, zpb, zzb]
                         rfl
                       refine zxc (i := 13) (N := some 48) (v := ?_) (a' := ?_) #[true, true, true, true, false, false, false, true, false, false, false, false, true, true, false, false, false, false, false, false] rfl rfl (zyb HT_.out (by kernel_rfl)) (fun _ _ _ h => h) (Or.inl ⟨by rfl, ?_⟩) ?_ ?_
                       rotate_left
                       · intro w'
                         go_simp
                         with_reducible rfl
                       rotate_left
                       · simp only [Act.put, List.setIfInBounds_toArray, List.set_cons_zero, List.set_cons_succ, zpb, zzb]
                         rfl
                       refine take_ (i := 4) (N := some 39) (v := ?_) (a' := ?_) #[true, true, true, true, true, false, false, true, false, false, false, false, true, true, false, false, false, false, false, false] rfl rfl (zge HT_.out HW_.out (by kernel_rfl)) (fun _ _ _ h => h) (Or.inl ⟨by rfl, ?_⟩) hHeld ?_ ?_
                       rotate_left
                       · rintro w' ⟨s0, s1, s2, s3, s4⟩
                         go_simp
                         with_reducible rfl
                       rotate_left
                       · simp only [Act.put, List.setIfInBounds_toArray, List.set_cons_zero, List.set_cons_succ, zpb, zzb]
                         rfl
                       refine zxc (i := 5) (N := some 40) (v := ?_) (a' := ?_) #[true, true, true, true, true, true, false, true, false, false, false, false, true, true, false, false, false, false, false, false] rfl rfl (zyb HT_.out (by kernel_rfl)) (fun _ _ _ h => h) (Or.inl ⟨by rfl, ?_⟩) ?_ ?_
                       rotate_left
                       · intro w'
                         go_simp
                         with_reducible rfl
                       rotate_left
                       · simp only [Act.put, List.setIfInBounds_toArray, List.set_cons_zero, List.set_cons_succ, zpb, zzb]
                         rfl
                       refine zxc (i := 6) (N := some 41) (v := ?_) (a' := ?_) #[true, true, true, true, true, true, true, true, false, false, false, false, true, true, false, false, false, false, false, false] rfl rfl (zyb HT_.out (by kernel_rfl)) (fun _ _ _ h => h) (Or.inl ⟨by rfl, ?_⟩) ?_ ?_
                       rotate_left
                       · intro w'
                         go_simp
                         with_reducible rfl
                       rotate_left
                       · simp only [Act.put, List.setIfInBounds_toArray, List.set_cons_zero, List.set_cons_succ, zpb, zzb]
                         rfl
                       refine take_ (i := 8) (N := some 43) (v := ?_) (a' := ?_) #[true, true, true, true, true, true, true, true, true, false, false, false, true, true, false, false, false, false, false, false] rfl rfl (zge HT_.out HW_.out (by kernel_rfl)) (fun _ _ _ h => h) (Or.inl ⟨by rfl, ?_⟩) hHeld ?_ ?_
                       rotate_left
                       · rintro w' ⟨s0, s1, s2, s3, s4⟩
                         go_simp
                         with_reducible rfl
                       rotate_left
                       · simp only [Act.put, List.setIfInBounds_toArray, List.set_cons_zero, List.set_cons_succ, zpb, zzb]
                         rfl
                       refine zxc (i := 9) (N := some 44) (v := ?_) (a' := ?_) #[true, true, true, true, true, true, true, true, true, true, false, false, true, true, false, false, false, false, false, false] rfl rfl (zyb HT_.out (by kernel_rfl)) (fun _ _ _ h => h) (Or.inl ⟨by rfl, ?_⟩) ?_ ?_
                       rotate_left
                       · intro w'
                         go_simp
                         with_reducible rfl
                       rotate_left
                       · simp only [Act.put, List.setIfInBounds_toArray, List.set_cons_zero, List.set_cons_succ, zpb, zzb]
                         rfl
                       refine zxc (i := 10) (N := some 45) (v := ?_) (a' := ?_) #[true, true, true, true, true, true, true, true, true, true, true, false, true, true, false, false, false, false, false, false] rfl rfl (zyb HT_.out (by kernel_rfl)) (fun _ _ _ h => h) (Or.inl ⟨by rfl, ?_⟩) ?_ ?_
                       rotate_left
                       · intro w'
                         go_simp
                         with_reducible rfl
                       rotate_left
                       · simp only [Act.put, List.setIfInBounds_toArray, List.set_cons_zero, List.set_cons_succ, zpb, zzb]
                         rfl
                       refine zxc (i := 11) (N := some 46) (v := ?_) (a' := ?_) #[true, true, true, true, true, true, true, true, true, true, true, true, true, true, false, false, false, false, false, false] rfl rfl (zyb HT_.out (by kernel_rfl)) (fun _ _ _ h => h) (Or.inl ⟨by rfl, ?_⟩) ?_ ?_
                       rotate_left
                       · intro w'
                         go_simp
                         with_reducible rfl
                       rotate_left
                       · simp only [Act.put, List.setIfInBounds_toArray, List.set_cons_zero, List.set_cons_succ, zpb, zzb]
                         rfl
                       refine take_ (i := 14) (N := some 49) (v := ?_) (a' := ?_) #[true, true, true, true, true, true, true, true, true, true, true, true, true, true, true, false, false, false, false, false] rfl rfl (zge HT_.out HW_.out (by kernel_rfl)) (fun _ _ _ h => h) (Or.inl ⟨by rfl, ?_⟩) hHeld ?_ ?_
                       rotate_left
                       · rintro w' ⟨s0, s1, s2, s3, s4⟩
                         go_simp
                         with_reducible rfl
                       rotate_left
                       · simp only [Act.put, List.setIfInBounds_toArray, List.set_cons_zero, List.set_cons_succ, zpb, zzb]
                         rfl
                       refine zxc (i := 15) (N := some 50) (v := ?_) (a' := ?_) #[true, true, true, true, true, true, true, true, true, true, true, true, true, true, true, true, false, false, false, false] rfl rfl (zyb HT_.out (by kernel_rfl)) (fun _ _ _ h => h) (Or.inl ⟨by rfl, ?_⟩) ?_ ?_
                       rotate_left
                       · intro w'
                         go_simp
                         with_reducible rfl
                       rotate_left
                       · simp only [Act.put, List.setIfInBounds_toArray, List.set_cons_zero, List.set_cons_succ, zpb, zzb]
                         rfl
                       refine zxc (i := 16) (N := some 51) (v := ?_) (a' := ?_) #[true, true, true, true, true, true, true, true, true, true, true, true, true, true, true, true, true, false, false, false] rfl rfl (zyb HT_.out (by kernel_rfl)) (fun _ _ _ h => h) (Or.inl ⟨by rfl, ?_⟩) ?_ ?_
                       rotate_left
                       · intro w'
                         go_simp
                         with_reducible rfl
                       rotate_left
                       · simp only [Act.put, List.setIfInBounds_toArray, List.set_cons_zero, List.set_cons_succ, zpb, zzb]
                         rfl
                       refine zxc (i := 17) (N := some 52) (v := ?_) (a' := ?_) #[true, true, true, true, true, true, true, true, true, true, true, true, true, true, true, true, true, true, false, false] rfl rfl (zyb HT_.out (by kernel_rfl)) (fun _ _ _ h => h) (Or.inl ⟨by rfl, ?_⟩) ?_ ?_
                       rotate_left
                       · intro w'
                         go_simp
                         with_reducible rfl
                       rotate_left
                       · simp only [Act.put, List.setIfInBounds_toArray, List.set_cons_zero, List.set_cons_succ, zpb, zzb]
                         rfl
                       refine zxc (i := 18) (N := some 53) (v := ?_) (a' := ?_) #[true, true, true, true, true, true, true, true, true, true, true, true, true, true, true, true, true, true, true, false] rfl rfl (zyb HT_.out (by kernel_rfl)) (fun _ _ _ h => h) (Or.inl ⟨by rfl, ?_⟩) ?_ ?_
                       rotate_left
                       · intro w'
                         go_simp
                         with_reducible rfl
                       rotate_left
                       · simp only [Act.put, List.setIfInBounds_toArray, List.set_cons_zero, List.set_cons_succ, zpb, zzb]
                         rfl
                       refine last_ (i := 19) (N := none) #[true, true, true, true, true, true, true, true, true, true, true, true, true, true, true, true, true, true, true, true] rfl rfl (one_of HT_.out (by kernel_rfl)) (by decide) (fun K hK => ?_)
                       refine skip_ (w1 := ?_) (by rfl) rfl ?_ ?_
                       rotate_left
                       · go_simp
                         rfl
                       refine hK.out _ _ ?_
                       clear hK K
                       refine done_ (done_of HT_.out (by kernel_rfl)) ?_
                       try go_wp2
                       go_roundg k1
                       case measure => have := HK1.out; omega
                       case rel => exact ⟨(y200), (wrap64 (x17_1 + 1)), (by first | rfl | (simp; done) | (simp [*]; done)), H', ⟨by have := HK1.out; omega⟩, ⟨by (with_reducible repeat (first | apply Kd.zqa | apply Kd.zpa | apply Kd.zsa)); exact HQ31.out⟩, ⟨by (with_reducible repeat (first | refine zga ?_ _ | refine zha ?_ | refine zfa ?_ _)); refine zsc ?_ (by have h_ := Kd.R_ne HO_7.out BK194.out (by decide); intro e_; exact h_ (by rw [e_]; rfl)) _; (with_reducible repeat (first | refine zga ?_ _ | refine zha ?_ | refine zfa ?_ _)); exact BK194.out⟩, ⟨by (with_reducible repeat (first | refine zga ?_ _ | refine zha ?_ | refine zfa ?_ _)); refine zsc ?_ (by have h_ := Kd.R_ne HO_7.out BK195.out (by decide); intro e_; exact h_ (by rw [e_]; rfl)) _; (with_reducible repeat (first | refine zga ?_ _ | refine zha ?_ | refine zfa ?_ _)); exact BK195.out⟩, ⟨by repeat (first | (with_reducible first | exact HB.out | apply zda | apply zba | apply zca | refine zea ?_ GB26.out | refine zea ?_ GE194.out | refine zea ?_ GE195.out) | exact HB.out)⟩⟩
                     · rw [if_neg c25] at H
                       exact absurd H (by simp)
                   · rw [if_neg c24] at H
                     exact absurd H (by simp)
                 · rw [if_neg c21] at H
                   exact absurd H (by simp)
               · rw [if_neg c16] at H
                 have c16b0 : decide ((wrap64 (x17_1 + a2_1)) < a0_1) = false := decide_eq_false c16
                 clear c16
                 have H' := zaa.mk H
                 clear H
                 have p199 : 0 ≤ (x17_1 : Int) := of_decide_eq_true (by first | (with_reducible assumption) | assumption)
                 have q199 : x17_1 < (l1.length : Int) := of_decide_eq_true (by first | (with_reducible assumption) | assumption)
                 obtain ⟨ad199, e199, hx199_0⟩ := Kd.at_int HR1.out x17_1 p199 q199
                 cases e199
                 replace hx199_0 := (HB.out.cell (World.block_lt_of_cell? w _ hx199_0)).trans hx199_0
                 replace p199 := eq_true p199
                 replace q199 := eq_true q199
                 have hnb32 := NB195_194.out
                 have hnc32 := NB194_195.out
                 have hcz33_0 : wr.cell? ⟨gb195, 0, none⟩ = some (.int .i64 a2_0) := (zla BK195.out 0).trans rfl
                 have hcz33_1 : wr.cell? ⟨gb195, 1, none⟩ = some (.int .i64 a2_1) := (zla BK195.out 1).trans rfl
                 have hfz33_0 := zka BK195.out 0
                 have hfz33_1 := zka BK195.out 1
                 have hcz34_0 : wr.cell? ⟨gb194, 0, none⟩ = some (.int .i64 a0_0) := (zla BK194.out 0).trans rfl
                 have hcz34_1 : wr.cell? ⟨gb194, 1, none⟩ = some (.int .i64 a0_1) := (zla BK194.out 1).trans rfl
                 have hcz34_2 : wr.cell? ⟨gb194, 2, none⟩ = some (.slice A0_2 l0_2.length c0_2) := (zla BK194.out 2).trans rfl
                 have hfz34_0 := zka BK194.out 0
                 have hfz34_1 := zka BK194.out 1
                 have hfz34_2 := zka BK194.out 2
                 go_wp2
                 go_roundg k1
                 case measure => have := HK1.out; omega
                 case rel => exact ⟨(x7_1), (wrap64 (x17_1 + 1)), (by first | rfl | (simp; done) | (simp [*]; done)), H', ⟨by have := HK1.out; omega⟩, ⟨by (with_reducible repeat (first | apply Kd.zqa | apply Kd.zpa | apply Kd.zsa)); exact HO_7.out⟩, ⟨by (with_reducible repeat (first | refine zga ?_ _ | refine zha ?_ | refine zfa ?_ _)); exact BK194.out⟩, ⟨by (with_reducible repeat (first | refine zga ?_ _ | refine zha ?_ | refine zfa ?_ _)); exact BK195.out⟩, ⟨by repeat (first | (with_reducible first | exact HB.out | apply zda | apply zba | apply zca | refine zea ?_ GE194.out | refine zea ?_ GE195.out) | exact HB.out)⟩⟩
             · rw [if_neg c15] at H
               have c15b0 : decide (0 ≤ (wrap64 (x17_1 + a2_1))) = false := decide_eq_false c15
               clear c15
               have H' := zaa.mk H
               clear H
               have p199 : 0 ≤ (x17_1 : Int) := of_decide_eq_true (by first | (with_reducible assumption) | assumption)
               have q199 : x17_1 < (l1.length : Int) := of_decide_eq_true (by first | (with_reducible assumption) | assumption)
               obtain ⟨ad199, e199, hx199_0⟩ := Kd.at_int HR1.out x17_1 p199 q199
               cases e199
               replace hx199_0 := (HB.out.cell (World.block_lt_of_cell? w _ hx199_0)).trans hx199_0
               replace p199 := eq_true p199
               replace q199 := eq_true q199
               have hnb35 := NB195_194.out
               have hnc35 := NB194_195.out
               have hcz36_0 : wr.cell? ⟨gb195, 0, none⟩ = some (.int .i64 a2_0) := (zla BK195.out 0).trans rfl
               have hcz36_1 : wr.cell? ⟨gb195, 1, none⟩ = some (.int .i64 a2_1) := (zla BK195.out 1).trans rfl
               have hfz36_0 := zka BK195.out 0
               have hfz36_1 := zka BK195.out 1
               go_wp2
               go_roundg k1
               case measure => have := HK1.out; omega
               case rel => exact ⟨(x7_1), (wrap64 (x17_1 + 1)), (by first | rfl | (simp; done) | (simp [*]; done)), H', ⟨by have := HK1.out; omega⟩, ⟨by (with_reducible repeat (first | apply Kd.zqa | apply Kd.zpa | apply Kd.zsa)); exact HO_7.out⟩, ⟨by (with_reducible repeat (first | refine zga ?_ _ | refine zha ?_ | refine zfa ?_ _)); exact BK194.out⟩, ⟨by (with_reducible repeat (first | refine zga ?_ _ | refine zha ?_ | refine zfa ?_ _)); exact BK195.out⟩, ⟨by repeat (first | (with_reducible first | exact HB.out | apply zda | apply zba | apply zca | refine zea ?_ GE194.out | refine zea ?_ GE195.out) | exact HB.out)⟩⟩
           · rw [if_neg c14] at H
             exact absurd H (by simp)
         · rw [if_neg c13] at H
           exact absurd H (by simp)
       · rw [if_neg c12] at H
         have c12b0 : decide (x17_1 < (l1.length : Int)) = false := decide_eq_false c12
         clear c12
         obtain rfl := Option.some.inj H
         go_wp2
         go_ret
         exact ⟨_, by first | rfl | (simp [zwa, zva] <;> rfl) | (simp [*, zwa, zva] <;> rfl), by (with_reducible repeat (first | apply Kd.zqa | apply Kd.zpa | apply Kd.zsa)); exact HO_7.out, by repeat (first | (with_reducible first | exact HB.out | apply zda | apply zba | apply zca | refine zea ?_ GE194.out | refine zea ?_ GE195.out) | exact HB.out)⟩
   · rw [if_neg c5] at H
     exact absurd H (by simp)
 · rw [if_neg c4] at H
   exact absurd H (by simp)
end Go.Proofs.YtoacbkoenkiahaaGreat.PTopGluePlate
end
section
namespace Go.Proofs.YtoacbkoenkiahaaGreat.PTopGluePlate
open Go.RowKit Go.Proofs.YtoacbkoenkiahaaGreatW.PrintWords Go.Proofs.YtoacbkoenkiahaaGreatW.PrintLast Go.Proofs.YtoacbkoenkiahaaGreatW.PrintMore
attribute [local go_sem] znb zlb zhc zgc zeb zdb zmb zkb
set_option linter.unusedVariables false
set_option linter.unusedSimpArgs false
def zae.l0 : Nat → Int → Int → Int → List (List Int) → Int → Int → Option (Int)
 | 0, _, _, _, _, _, _ => none
 | k + 1, x1, x2, x6, x9, x10, x11 => if x11 < x10 then (if 0 ≤ x11 then (if x11 < (x9.length : Int) then (if 0 ≤ x2 then (if x2 < ((rd_L3 x9 x11).length : Int) then (if 0 ≤ x1 then (zae.l0 k x1 x2 (Go.bits .or .i64 x6 (shl .i64 (Go.bits .and .i64 (shr .i64 (rd (rd_L3 x9 x11) x2) x1) 1) x11)) x9 x10 (wrap64 (x11 + 1))) else (none)) else (none)) else (none)) else (none)) else (none)) else (some x6)
def zae.f (k : Nat) (l0 : List (List Int)) (a1 : Int) (a2 : Int) : Option (Int) := zae.l0 k a1 a2 0 l0 (l0.length : Int) 0
set_option maxHeartbeats 8000000 in
set_option maxRecDepth 100000 in
theorem zae.calls (k : Nat) (A0 : Option Addr) (c0 : Nat) (l0 : List (List Int)) (a1 : Int) (a2 : Int) (r : Int) (w : World) (hr0 : Kd.C (Kd.slice 3 (Kd.int .i64)) w A0 l0.length l0) (hc0 : l0.length ≤ c0) (h : zae.f k l0 a1 a2 = some r) :
 Calls Tryz.prog 40 #[.slice A0 l0.length c0, .int .i64 a1, .int .i64 a2] w fun e w' => e = .returned (.int .i64 r) ∧ zjc w w' := by
 have HR0 := zaa.mk hr0
 have HC0 := zaa.mk hc0
 clear hr0 hc0
 have H : (zae.l0 k a1 a2 0 l0 (l0.length : Int) 0) = some r := h
 clear h
 have H' := zaa.mk H
 clear H
 go_enter Tryz.func40, Tryz.ntmps40
 go_wp2
 go_loopg [6, 11] k (fun kq v6 v11 w' => ∃ (x6_1 : Int) (x11_1 : Int), v6 = .int .i64 x6_1 ∧ v11 = .int .i64 x11_1 ∧ zaa (zae.l0 kq a1 a2 x6_1 l0 (l0.length : Int) x11_1 = some r) ∧ zaa (kq ≤ k) ∧ zjc w w')
 case atStart => exact ⟨(0), (0), (by first | rfl | (simp; done) | (simp [*]; done)), (by first | rfl | (simp; done) | (simp [*]; done)), H', ⟨Nat.le_refl _⟩, by repeat (first | exact zjc.refl _ | apply zjc.step)⟩
 case round =>
  clear H'
  try clear p2
  obtain ⟨x6_1, x11_1, rfl, rfl, HA, HK1, ⟨m1, rfl⟩⟩ := hrel
  cases gk with
  | zero => exact absurd HA.out (by simp [zae.l0])
  | succ k1 =>
   have H := HA.out
   clear HA
   simp only [zae.l0] at H
   by_cases c4 : x11_1 < (l0.length : Int)
   · rw [if_pos c4] at H
     have c4b0 : decide (x11_1 < (l0.length : Int)) = true := decide_eq_true c4
     clear c4
     by_cases c5 : 0 ≤ x11_1
     · rw [if_pos c5] at H
       have c5b0 : decide (0 ≤ x11_1) = true := decide_eq_true c5
       clear c5
       by_cases c6 : x11_1 < (l0.length : Int)
       · rw [if_pos c6] at H
         have c6b0 : decide (x11_1 < (l0.length : Int)) = true := decide_eq_true c6
         clear c6
         by_cases c7 : 0 ≤ a2
         · rw [if_pos c7] at H
           have c7b0 : decide (0 ≤ a2) = true := decide_eq_true c7
           clear c7
           by_cases c8 : a2 < ((rd_L3 l0 x11_1).length : Int)
           · rw [if_pos c8] at H
             have c8b0 : decide (a2 < ((rd_L3 l0 x11_1).length : Int)) = true := decide_eq_true c8
             clear c8
             by_cases c9 : 0 ≤ a1
             · rw [if_pos c9] at H
               have c9b0 := eq_true c9
               have c9b1 : decide (0 ≤ a1) = true := decide_eq_true c9
               clear c9
               obtain ⟨ji10, hji10⟩ : ∃ j_ : Int, (shr .i64 (rd (rd_L3 l0 x11_1) a2) a1) = j_ := ⟨_, rfl⟩
               replace H : (zae.l0 k1 a1 a2 (Go.bits .or .i64 x6_1 (shl .i64 (Go.bits .and .i64 (ji10) 1) x11_1)) l0 (l0.length : Int) (wrap64 (x11_1 + 1))) = some r := by first | (rw [hji10] at H; exact H) | (simp only [hji10] at H ⊢; exact H)
               have hji10_ : ((rd (rd_L3 l0 x11_1) a2) / 2 ^ min a1.toNat 64) = ji10 := hji10
               have hji10z : a1 ≤ 64 → ((rd (rd_L3 l0 x11_1) a2) / 2 ^ a1.toNat) = ji10 := shr_small hji10
               have c11b0 := eq_true (of_decide_eq_true (by first | (with_reducible assumption) | assumption) : 0 ≤ x11_1)
               obtain ⟨ji12, hji12⟩ : ∃ j_ : Int, (shl .i64 (Go.bits .and .i64 (ji10) 1) x11_1) = j_ := ⟨_, rfl⟩
               replace H : (zae.l0 k1 a1 a2 (Go.bits .or .i64 x6_1 (ji12)) l0 (l0.length : Int) (wrap64 (x11_1 + 1))) = some r := by first | (rw [hji12] at H; exact H) | (simp only [hji12] at H ⊢; exact H)
               have hji12_ : (IntKind.i64.wrap ((Go.bits .and .i64 (ji10) 1) * 2 ^ min x11_1.toNat 64)) = ji12 := hji12
               have hji12z : x11_1 ≤ 64 → (IntKind.i64.wrap ((Go.bits .and .i64 (ji10) 1) * 2 ^ x11_1.toNat)) = ji12 := shl_small hji12
               have hji12y : (wrap64 ((Go.bits .and .i64 (ji10) 1) * 2 ^ min x11_1.toNat 64)) = ji12 := (zpb _).symm.trans hji12_
               have hji12x : x11_1 ≤ 64 → (wrap64 ((Go.bits .and .i64 (ji10) 1) * 2 ^ x11_1.toNat)) = ji12 := fun h_ => (zpb _).symm.trans (hji12z h_)
               have H' := zaa.mk H
               clear H
               have p201 : 0 ≤ (x11_1 : Int) := of_decide_eq_true (by first | (with_reducible assumption) | assumption)
               have q201 : x11_1 < (l0.length : Int) := of_decide_eq_true (by first | (with_reducible assumption) | assumption)
               obtain ⟨ad201, A201_0, c201_0, e201, hx201_0, hl201_0, hi201_0⟩ := at_L3 HR0.out x11_1 p201 q201
               cases e201
               have HR201_0 := zaa.mk hi201_0
               have HC201_0 := zaa.mk hl201_0
               clear hi201_0 hl201_0
               replace p201 := eq_true p201
               replace q201 := eq_true q201
               have p202 : 0 ≤ (a2 : Int) := of_decide_eq_true (by first | (with_reducible assumption) | assumption)
               have q202 : a2 < ((rd_L3 l0 x11_1).length : Int) := of_decide_eq_true (by first | (with_reducible assumption) | assumption)
               obtain ⟨ad202, e202, hx202_0⟩ := Kd.at_int HR201_0.out a2 p202 q202
               cases e202
               replace p202 := eq_true p202
               replace q202 := eq_true q202
               go_wp2
               go_roundg k1
               case measure => have := HK1.out; omega
               case rel => exact ⟨(Go.bits .or .i64 x6_1 (ji12)), (wrap64 (x11_1 + 1)), (by first | rfl | (simp; done) | (simp only [← hji12] <;> (first | rfl | simp)) | (simp [*]; done)), (by first | rfl | (simp; done) | (simp [*]; done)), H', ⟨by have := HK1.out; omega⟩, by repeat (first | exact zjc.refl _ | apply zjc.step)⟩
             · rw [if_neg c9] at H
               exact absurd H (by simp)
           · rw [if_neg c8] at H
             exact absurd H (by simp)
         · rw [if_neg c7] at H
           exact absurd H (by simp)
       · rw [if_neg c6] at H
         exact absurd H (by simp)
     · rw [if_neg c5] at H
       exact absurd H (by simp)
   · rw [if_neg c4] at H
     have c4b0 : decide (x11_1 < (l0.length : Int)) = false := decide_eq_false c4
     clear c4
     obtain rfl := Option.some.inj H
     go_wp2
     go_ret
     exact ⟨by first | rfl | (simp; done) | (simp [*]; done), by repeat (first | exact zjc.refl _ | apply zjc.step)⟩
end Go.Proofs.YtoacbkoenkiahaaGreat.PTopGluePlate
end
section
namespace Go.Proofs.YtoacbkoenkiahaaGreat.PTopGluePlate
open Go.RowKit Go.Proofs.YtoacbkoenkiahaaGreatW.PrintWords Go.Proofs.YtoacbkoenkiahaaGreatW.PrintLast Go.Proofs.YtoacbkoenkiahaaGreatW.PrintMore
attribute [local go_sem] znb zlb zhc zgc zeb zdb zmb zkb
set_option linter.unusedVariables false
set_option linter.unusedSimpArgs false
mutual
def zdd.l0 : Nat → List (List Int) → List ByteArray → Int → Int → Int → Int → List (List Int) → Option (List ByteArray)
 | 0, _, _, _, _, _, _, _ => none
 | k + 1, x1, x4, x10, x11, x204000, x204001, x204002 => if x11 < x10 then (if 0 ≤ x204000 then (if (x204000 : Int).toNat ≤ 281474976710656 then ((some (List.replicate (x204000 : Int).toNat 0 : List Int)).bind fun y204 => (zdd.l1 k x1 x4 x11 y204 x10 x11 (y204.length : Int) 0 x204000 x204001 x204002)) else (none)) else (none)) else (some x4)
def zdd.l1 : Nat → List (List Int) → List ByteArray → Int → List Int → Int → Int → Int → Int → Int → Int → List (List Int) → Option (List ByteArray)
 | 0, _, _, _, _, _, _, _, _, _, _, _ => none
 | k + 1, x1, x4, x5, x6, x10, x11, x19, x20, x204000, x204001, x204002 => if x20 < x19 then ((zae.f k x1 x20 x5).bind fun t207 => (if 0 ≤ x20 then (if x20 < (x6.length : Int) then (zdd.l1 k x1 x4 x5 (x6.set (x20 : Int).toNat ((wrap64 (48 + t207)) % 256)) x10 x11 x19 (wrap64 (x20 + 1)) x204000 x204001 x204002) else (none)) else (none))) else (if x4.length < 8796093022208 then (zdd.l0 k x1 (x4 ++ [strOfNums x6]) x10 (wrap64 (x11 + 1)) x204000 x204001 x204002) else (none))
end
def zdd.f (k : Nat) (a0_0 : Int) (a0_1 : Int) (l0_2 : List (List Int)) (l1 : List (List Int)) : Option (List ByteArray) := zdd.l0 k l1 ([] : List ByteArray) a0_1 0 a0_0 a0_1 l0_2
set_option maxHeartbeats 8000000 in
set_option maxRecDepth 100000 in
theorem zdd.calls (k : Nat) (a0_0 : Int) (a0_1 : Int) (A0_2 : Option Addr) (c0_2 : Nat) (l0_2 : List (List Int)) (A1 : Option Addr) (c1 : Nat) (l1 : List (List Int)) (r : List ByteArray) (w : World) (hr0_2 : Kd.C (Kd.slice 3 (Kd.int .i64)) w A0_2 l0_2.length l0_2) (hc0_2 : l0_2.length ≤ c0_2) (hr1 : Kd.C (Kd.slice 3 (Kd.int .i64)) w A1 l1.length l1) (hc1 : l1.length ≤ c1) (h : zdd.f k a0_0 a0_1 l0_2 l1 = some r) :
 Calls Tryz.prog 23 #[.agg #[.int .i64 a0_0, .int .i64 a0_1, .slice A0_2 l0_2.length c0_2], .slice A1 l1.length c1] w fun e w' => ∃ v0_ : Value, e = .returned (v0_) ∧ Kd.R Kd.string 9 w' w.heap.size (fun _ => True) v0_ r ∧ Below w.heap.size w w' := by
 have hu72 := Tryz.underlying72
 have HR0_2 := zaa.mk hr0_2
 have HC0_2 := zaa.mk hc0_2
 clear hr0_2 hc0_2
 have HR1 := zaa.mk hr1
 have HC1 := zaa.mk hc1
 clear hr1 hc1
 have HB := zaa.mk (Below.refl w.heap.size w)
 have H : (zdd.l0 k l1 ([] : List ByteArray) a0_1 0 a0_0 a0_1 l0_2) = some r := h
 clear h
 have H' := zaa.mk H
 clear H
 go_enter Tryz.func23, Tryz.ntmps23
 go_wp2_with (first | ((with_reducible refine zbb (N := 2) rfl ?_); refine zob ?hg (N := 2) ?hd (cs := #[.int .i64 a0_0, .int .i64 a0_1, .slice A0_2 l0_2.length c0_2]) (t := 72) ?hr ?_; (case hd => rfl); (case hg => rfl); (case hr => first | (go_simp; done) | (go_simp; rfl)); intro gb203 hg w3 hbox hb; have BK203 := zaa.mk (hbox); have GW203 := zaa.mk ((by rw [hg]; exact (zja (by repeat (first | (with_reducible first | exact HB.out | apply zda | apply zba | apply zca) | exact HB.out))) : w.heap.size ≤ gb203)); have GE203 := zaa.mk ((by rw [hg]; exact (zja (by repeat (first | (with_reducible first | exact HB.out | apply zda | apply zba | apply zca) | exact HB.out))) : w.heap.size ≤ gb203)); replace HB := zaa.mk (zma (by repeat (first | (with_reducible first | exact HB.out | apply zda | apply zba | apply zca) | exact HB.out)) hb); clear hb hbox hg; have hcz4_0 : w3.cell? ⟨gb203, 0, none⟩ = some (.int .i64 a0_0) := (zla BK203.out 0).trans rfl; have hcz4_1 : w3.cell? ⟨gb203, 1, none⟩ = some (.int .i64 a0_1) := (zla BK203.out 1).trans rfl; have hcz4_2 : w3.cell? ⟨gb203, 2, none⟩ = some (.slice A0_2 l0_2.length c0_2) := (zla BK203.out 2).trans rfl; have hfz4_0 := zka BK203.out 0; have hfz4_1 := zka BK203.out 1; have hfz4_2 := zka BK203.out 2))
 go_loopg [4, 11] k (fun kq v4 v11 w' => ∃ (x4_1 : List ByteArray) (x11_1 : Int), v11 = .int .i64 x11_1 ∧ zaa (zdd.l0 kq l1 x4_1 a0_1 x11_1 a0_0 a0_1 l0_2 = some r) ∧ zaa (kq ≤ k) ∧ zaa (Kd.R Kd.string 9 w' w.heap.size (fun _ => True) v4 x4_1) ∧ zaa (w'.heap[gb203]? = some (.cells #[.int .i64 a0_0, .int .i64 a0_1, (.slice A0_2 l0_2.length c0_2)] 72 (0, 0))) ∧ zaa (Below w.heap.size w w'))
 case atStart => exact ⟨(([] : List ByteArray)), (0), (by first | rfl | (simp; done) | (simp [*]; done)), H', ⟨Nat.le_refl _⟩, ⟨by first | exact Kd.R_nil _ _ _ _ _ | exact Kd.N_nil _ _ _ _ _ | exact Kd.V_nil _ _ _ _ _ | exact Kd.Q_nil _ _ _ _ _ | exact Kd.S_nil _ _ _ _ _⟩, ⟨by (with_reducible repeat (first | refine zga ?_ _ | refine zha ?_ | refine zfa ?_ _)); exact BK203.out⟩, ⟨by repeat (first | (with_reducible first | exact HB.out | apply zda | apply zba | apply zca | refine zea ?_ GE203.out) | exact HB.out)⟩⟩
 case round =>
  clear H'
  try clear c1
  try clear c2
  try clear p2
  try clear hcz4_0
  try clear hcz4_1
  try clear hcz4_2
  try clear hfz4_0
  try clear hfz4_1
  try clear hfz4_2
  obtain ⟨x4_1, x11_1, rfl, HA, HK1, HO_4, BK203, HB⟩ := hrel
  cases gk with
  | zero => exact absurd HA.out (by simp [zdd.l0])
  | succ k1 =>
   have H := HA.out
   clear HA
   simp only [zdd.l0] at H
   by_cases c5 : x11_1 < a0_1
   · rw [if_pos c5] at H
     have c5b0 : decide (x11_1 < a0_1) = true := decide_eq_true c5
     clear c5
     by_cases c6 : 0 ≤ a0_0
     · rw [if_pos c6] at H
       have c6b0 := eq_true c6
       have c6b1 : decide (0 ≤ a0_0) = true := decide_eq_true c6
       clear c6
       by_cases c7 : (a0_0 : Int).toNat ≤ 281474976710656
       · rw [if_pos c7] at H
         have c7b0 := eq_true c7
         have c7b1 : decide ((a0_0 : Int).toNat ≤ 281474976710656) = true := decide_eq_true c7
         clear c7
         obtain ⟨y204, hy204⟩ : ∃ y_ : List Int, y_ = (List.replicate (a0_0 : Int).toNat 0) := ⟨_, rfl⟩
         replace H : (zdd.l1 k1 l1 x4_1 x11_1 y204 a0_1 x11_1 (y204.length : Int) 0 a0_0 a0_1 l0_2) = some r := by first | (rw [hy204]; with_reducible exact H) | (have H2_ := (Option.bind_some _ _).symm.trans H; rw [hy204]; with_reducible exact H2_) | (have H2_ := (Option.bind_some _ _).symm.trans H; with_reducible exact H2_) | with_reducible exact H | (rw [hy204]; exact H) | exact H
         have Ny204 := zaa.mk hy204
         clear hy204
         have H' := zaa.mk H
         clear H
         have hcz8_0 : wr.cell? ⟨gb203, 0, none⟩ = some (.int .i64 a0_0) := (zla BK203.out 0).trans rfl
         have hcz8_1 : wr.cell? ⟨gb203, 1, none⟩ = some (.int .i64 a0_1) := (zla BK203.out 1).trans rfl
         have hcz8_2 : wr.cell? ⟨gb203, 2, none⟩ = some (.slice A0_2 l0_2.length c0_2) := (zla BK203.out 2).trans rfl
         have hfz8_0 := zka BK203.out 0
         have hfz8_1 := zka BK203.out 1
         have hfz8_2 := zka BK203.out 2
         go_wp2_with (first | ((with_reducible refine zbb (N := 17) rfl ?_); refine Kd.R_make (Kd.int .u8) _ 5 rfl (N := 17) rfl 98 _ _ rfl a0_0 rfl rfl Tryz.underlying98 (.int .u8 0) 1 info5 rfl (by decide) (by omega) 0 (ok := fun _ => True) (okp := fun _ => True) rfl (fun _ hk => hk) trivial (of_decide_eq_true (by first | (with_reducible assumption) | assumption)) (Nat.le_trans (Nat.mul_le_mul_right _ (of_decide_eq_true (by first | (with_reducible assumption) | assumption) : a0_0.toNat ≤ 281474976710656)) (by omega)) (Below.refl _ _) (Nat.le_refl _) ?_; intro v205 w9 ho10 hb hg_ hnew_; clear hg_ hnew_; (first | rw [← Ny204.out] at ho10 | (simp only [Int.reduceToNat] at ho10; rw [← Ny204.out] at ho10)); replace HO_4 := zaa.mk (Kd.zcb (by (with_reducible repeat (first | apply Kd.zqa | apply Kd.zpa | apply Kd.zsa)); exact HO_4.out) hb); have HO206 := zaa.mk (Kd.znd ho10 (zja (by repeat (first | (with_reducible first | exact HB.out | apply zda | apply zba | apply zca | refine zea ?_ GE203.out) | exact HB.out)))); replace BK203 := zaa.mk (zna (g := gb203) (o := .cells #[.int .i64 a0_0, .int .i64 a0_1, .slice A0_2 l0_2.length c0_2] 72 (0, 0)) (by (with_reducible repeat (first | refine zga ?_ _ | refine zha ?_ | refine zfa ?_ _)); exact BK203.out) hb); replace HB := zaa.mk (zma (by repeat (first | (with_reducible first | exact HB.out | apply zda | apply zba | apply zca | refine zea ?_ GE203.out) | exact HB.out)) hb); clear hb ho10; obtain ⟨Ao11, co11, eo11⟩ := Kd.zfd HO206.out; subst eo11))
         go_loopg [20] k1 (fun kq v20 w' => ∃ (x6_2 : List Int) (x20_2 : Int), v20 = .int .i64 x20_2 ∧ zaa (zdd.l1 kq l1 x4_1 x11_1 x6_2 a0_1 x11_1 (y204.length : Int) x20_2 a0_0 a0_1 l0_2 = some r) ∧ zaa (kq ≤ k1) ∧ zaa (Kd.R Kd.string 9 w' w.heap.size (fun _ => True) u4 x4_1) ∧ zaa (Kd.R (Kd.int .u8) 5 w' w.heap.size (fun _ => True) (.slice Ao11 y204.length co11) x6_2) ∧ zaa (w'.heap[gb203]? = some (.cells #[.int .i64 a0_0, .int .i64 a0_1, (.slice A0_2 l0_2.length c0_2)] 72 (0, 0))) ∧ zaa (Below w.heap.size w w'))
         case atStart => exact ⟨(y204), (0), (by first | rfl | (simp; done) | (simp [*]; done)), H', ⟨Nat.le_refl _⟩, ⟨by (with_reducible repeat (first | apply Kd.zqa | apply Kd.zpa | apply Kd.zsa)); exact HO_4.out⟩, ⟨by (with_reducible repeat (first | apply Kd.zqa | apply Kd.zpa | apply Kd.zsa)); exact HO206.out⟩, ⟨by (with_reducible repeat (first | refine zga ?_ _ | refine zha ?_ | refine zfa ?_ _)); exact BK203.out⟩, ⟨by repeat (first | (with_reducible first | exact HB.out | apply zda | apply zba | apply zca | refine zea ?_ GE203.out) | exact HB.out)⟩⟩
         case round =>
          clear H'
          try clear c1
          try clear c2
          try clear p2
          try clear c5
          try clear c5b0
          try clear c6
          try clear c6b0
          try clear c6b1
          try clear c7
          try clear c7b0
          try clear c7b1
          try clear hcz4_0
          try clear hcz4_1
          try clear hcz4_2
          try clear hcz8_0
          try clear hcz8_1
          try clear hcz8_2
          try clear hfz4_0
          try clear hfz4_1
          try clear hfz4_2
          try clear hfz8_0
          try clear hfz8_1
          try clear hfz8_2
          try clear p2
          obtain ⟨x6_2, x20_2, rfl, HA, HK2, HO_4, HO_6, BK203, HB⟩ := hrel
          have hl6_2 := (Kd.zgb HO_6.out).1
          rw [hl6_2] at HO_6
          (try simp only [hl6_2])
          (try simp only [hl6_2] at BK203)
          (try simp only [hl6_2] at HO_4)
          cases gk with
          | zero => exact absurd HA.out (by simp [zdd.l1])
          | succ k2 =>
           have H := HA.out
           clear HA
           simp only [zdd.l1] at H
           by_cases c12 : x20_2 < (y204.length : Int)
           · rw [if_pos c12] at H
             have c12b0 : decide (x20_2 < (y204.length : Int)) = true := decide_eq_true c12
             try (have c12b0hl6_2 := c12b0; rw [hl6_2] at c12b0hl6_2)
             clear c12
             replace H := Option.bind_eq_some_iff.mp H
             obtain ⟨t207, A130, H⟩ := H
             replace H : (if 0 ≤ x20_2 then (if x20_2 < (x6_2.length : Int) then (zdd.l1 k2 l1 x4_1 x11_1 (x6_2.set (x20_2 : Int).toNat ((wrap64 (48 + t207)) % 256)) a0_1 x11_1 (y204.length : Int) (wrap64 (x20_2 + 1)) a0_0 a0_1 l0_2) else (none)) else (none)) = some r := H
             have A13 := zaa.mk A130
             clear A130
             by_cases c14 : 0 ≤ x20_2
             · rw [if_pos c14] at H
               have c14b0 : decide (0 ≤ x20_2) = true := decide_eq_true c14
               clear c14
               by_cases c15 : x20_2 < (x6_2.length : Int)
               · rw [if_pos c15] at H
                 have c15b0 : decide (x20_2 < (x6_2.length : Int)) = true := decide_eq_true c15
                 try (have c15b0hl6_2 := c15b0; rw [hl6_2] at c15b0hl6_2)
                 clear c15
                 obtain ⟨y208, hy208⟩ : ∃ y_ : List Int, y_ = (x6_2.set (x20_2 : Int).toNat ((wrap64 (48 + t207)) % 256)) := ⟨_, rfl⟩
                 replace H : (zdd.l1 k2 l1 x4_1 x11_1 y208 a0_1 x11_1 (y204.length : Int) (wrap64 (x20_2 + 1)) a0_0 a0_1 l0_2) = some r := by first | (rw [hy208]; with_reducible exact H) | (have H2_ := (Option.bind_some _ _).symm.trans H; rw [hy208]; with_reducible exact H2_) | (have H2_ := (Option.bind_some _ _).symm.trans H; with_reducible exact H2_) | with_reducible exact H | (rw [hy208]; exact H) | exact H
                 have Ny208 := zaa.mk hy208
                 clear hy208
                 have H' := zaa.mk H
                 clear H
                 go_wp2_with (first | ((with_reducible refine zxa (f := 40) rfl ?_); refine zhd (some 28) rfl rfl Tryz.func40 (by kernel_rfl) rfl #[.slice A1 l1.length c1, .int .i64 x20_2, .int .i64 x11_1] rfl (by (try simp only [List.map_toArray, List.map_cons, List.map_nil]); first | done | rfl | (simp only [List.length_drop, List.length_take]; rfl)) ?_; (with_reducible refine (zae.calls k2 _ _ l1 x20_2 x11_1 t207 _ ?side1 ?side2 A13.out).mono ?_); (case side1 => repeat (first | exact (Kd.zkc HR1.out HB.out) | (with_reducible refine Kd.zrb ?_ _) | (with_reducible refine Kd.zqb ?_ _) | (with_reducible refine Kd.zmc ?_))); (case side2 => exact HC1.out); rintro e w' ⟨rfl, ⟨nd, rfl⟩⟩; refine ⟨_, rfl, ?_⟩; (try (rw [drewN_self wr]; generalize hq_ : World.drewN wr _ = wr; have n0_ : zaa (Kd.R Kd.string 9 wr w.heap.size (fun _ => True) u4 x4_1) := ⟨by rw [← hq_]; exact (by (with_reducible repeat (first | apply Kd.zqa | apply Kd.zpa | apply Kd.zsa)); exact HO_4.out)⟩; have n1_ : zaa (Kd.R (Kd.int .u8) 5 wr w.heap.size (fun _ => True) (.slice Ao11 x6_2.length co11) x6_2) := ⟨by rw [← hq_]; exact (by (with_reducible repeat (first | apply Kd.zqa | apply Kd.zpa | apply Kd.zsa)); exact HO_6.out)⟩; have n2_ : zaa (wr.heap[gb203]? = some (.cells #[.int .i64 a0_0, .int .i64 a0_1, .slice A0_2 l0_2.length c0_2] 72 (0, 0))) := ⟨by rw [← hq_]; exact (by (with_reducible repeat (first | refine zga ?_ _ | refine zha ?_ | refine zfa ?_ _)); exact BK203.out)⟩; have n3_ : zaa (Below w.heap.size w wr) := ⟨by rw [← hq_]; exact (by repeat (first | (with_reducible first | exact HB.out | apply zda | apply zba | apply zca | refine zea ?_ GE203.out) | exact HB.out))⟩; clear HO_4 HO_6 BK203 HB hq_; have HO_4 := n0_; have HO_6 := n1_; have BK203 := n2_; have HB := n3_; clear n0_ n1_ n2_ n3_)); have p16 : 0 ≤ (x20_2 : Int) := of_decide_eq_true (by first | (with_reducible assumption) | assumption); have q16 : (x20_2 : Int) < ((x6_2.length : Int) : Int) := of_decide_eq_true (by first | (with_reducible assumption) | assumption); obtain ⟨go16, co16, eo16, gb16, gl16, cl16, HG16⟩ := Kd.R_form HO_6.out (by omega); (first | cases eo16 | (injection eo16 with ea_ en_ ec_; (first | subst ea_ | (injection ea_ with ea_; subst ea_)); subst ec_; clear en_)); have GB16 := zaa.mk gb16; have GG16 := zaa.mk HG16; clear gb16 gl16 HG16; obtain ⟨hx16_0, hf16_0⟩ := Kd.R_celln 0 HO_6.out (x20_2 : Int) p16 q16; replace p16 := eq_true p16; replace q16 := eq_true q16; obtain ⟨hy17_, hz17_⟩ := Kd.R_celln 0 HO_6.out (x20_2 : Int) (of_decide_eq_true (by first | (with_reducible assumption) | assumption)) (of_decide_eq_true (by first | (with_reducible assumption) | assumption)); have HP17 := Kd.R_putg HO_6.out (x20_2 : Int) ((wrap64 (48 + t207)) % 256)) | ((with_reducible refine gate_store (t := 5) (p := 31) rfl ?_); refine store_event (t := 5) (p := 31) (v := ?vo_w18) (w1 := (wr.setCell ⟨go16, (x20_2 : Int).toNat, none⟩ (.int .u8 ((wrap64 (48 + t207)) % 256)))) ?hg ?ho ?hn ?hr ?_; (case ho => rfl); (case hg => rfl); (case hn => rfl); (case hr => first | (go_simp; done) | (go_simp; rfl)); intro w18 hw; have hg : wr.grownBy w18 (some go16) := (by rw [hw]; exact HP17.2); have hp_ : Kd.R (Kd.int .u8) 5 w18 w.heap.size (fun _ => True) (.slice (some ⟨go16, 0, none⟩) x6_2.length co11) y208 := (by rw [hw, Ny208.out]; exact HP17.1); clear HP17; replace HO_4 := zaa.mk (Kd.R_over' (v := (.slice (some ⟨go16, 0, none⟩) x6_2.length co11)) (by (with_reducible repeat (first | apply Kd.zqa | apply Kd.zpa | apply Kd.zsa)); exact HO_4.out) (Kd.zkd HO_6.out) (by decide) hg); replace BK203 := zaa.mk (blk_grown (g := gb203) (o := .cells #[.int .i64 a0_0, .int .i64 a0_1, .slice A0_2 l0_2.length c0_2] 72 (0, 0)) (by (with_reducible repeat (first | refine zga ?_ _ | refine zha ?_ | refine zfa ?_ _)); exact BK203.out) hg (Kd.R_ne HO_6.out BK203.out (by decide))); replace HO_6 := zaa.mk (hp_); replace HB := zaa.mk ((by rw [hw]; exact zea (HB.out) GB16.out : Below w.heap.size w w18)); clear hg hw hp_))
                 (try simp only [← hl6_2])
                 go_roundg k2
                 case measure => have := HK1.out; have := HK2.out; omega
                 case rel => exact ⟨(y208), (wrap64 (x20_2 + 1)), (by first | rfl | (simp; done) | (simp [*]; done)), H', ⟨by have := HK1.out; have := HK2.out; omega⟩, ⟨by (try simp only [hl6_2]); (with_reducible repeat (first | apply Kd.zqa | apply Kd.zpa | apply Kd.zsa)); exact HO_4.out⟩, ⟨by (try simp only [hl6_2]); (with_reducible repeat (first | apply Kd.zqa | apply Kd.zpa | apply Kd.zsa)); exact HO_6.out⟩, ⟨by (try simp only [hl6_2]); (with_reducible repeat (first | refine zga ?_ _ | refine zha ?_ | refine zfa ?_ _)); exact BK203.out⟩, ⟨by repeat (first | (with_reducible first | exact HB.out | apply zda | apply zba | apply zca | refine zea ?_ GE203.out) | exact HB.out)⟩⟩
               · rw [if_neg c15] at H
                 exact absurd H (by simp)
             · rw [if_neg c14] at H
               exact absurd H (by simp)
           · rw [if_neg c12] at H
             have c12b0 : decide (x20_2 < (y204.length : Int)) = false := decide_eq_false c12
             try (have c12b0hl6_2 := c12b0; rw [hl6_2] at c12b0hl6_2)
             clear c12
             by_cases c19 : x4_1.length < 8796093022208
             · rw [if_pos c19] at H
               have LMc19 := zaa.mk c19
               clear c19
               obtain ⟨y209, hy209⟩ : ∃ y_ : List ByteArray, y_ = (x4_1 ++ [strOfNums x6_2]) := ⟨_, rfl⟩
               replace H : (zdd.l0 k2 l1 y209 a0_1 (wrap64 (x11_1 + 1)) a0_0 a0_1 l0_2) = some r := by first | (rw [hy209]; with_reducible exact H) | (have H2_ := (Option.bind_some _ _).symm.trans H; rw [hy209]; with_reducible exact H2_) | (have H2_ := (Option.bind_some _ _).symm.trans H; with_reducible exact H2_) | with_reducible exact H | (rw [hy209]; exact H) | exact H
               have Ny209 := zaa.mk hy209
               clear hy209
               have H' := zaa.mk H
               clear H
               have hcv20 := own_string (P := Tryz.prog) Tryz.underlying98 Tryz.underlying5 Tryz.underlying9 (Kd.own_of_R HO_6.out)
               go_wp2_with (first | ((with_reducible refine gate_builtin (b := .append) (xs := #[.tmp 33, .tmp 36]) rfl ?_); at_builtin; refine Kd.R_append Kd.string (w0 := w) w.heap.size rfl (.tmp 33) (.tmp 36) 41 9 (.string ⟨#[]⟩) 16 rfl Tryz.underlying41 info9 rfl (by decide) (by omega) u4 x4_1 (strOfNums x6_2) [.string (strOfNums x6_2)] (fun _ => True) (fun _ => False) rfl rfl ?aP (fun _ hk => hk.elim) ?aF ?aO ?aB ?aS ?aL ?_; (case aP => exact rfl); (case aB => exact (by repeat (first | (with_reducible first | exact HB.out | apply zda | apply zba | apply zca | refine zea ?_ GE203.out) | exact HB.out))); (case aF => exact (fun _ _ => trivial)); (case aO => exact (by (with_reducible repeat (first | apply Kd.zqa | apply Kd.zpa | apply Kd.zsa)); exact HO_4.out)); (case aS => exact (zja (by repeat (first | (with_reducible first | exact HB.out | apply zda | apply zba | apply zca | refine zea ?_ GE203.out) | exact HB.out)))); (case aL => have := LMc19.out; omega); intro v210 w21 ho hb hg hat; rw [← Ny209.out] at ho; replace HO_6 := zaa.mk (Kd.R_over' (by (with_reducible repeat (first | apply Kd.zqa | apply Kd.zpa | apply Kd.zsa)); exact HO_6.out) (Kd.zkd (by (with_reducible repeat (first | apply Kd.zqa | apply Kd.zpa | apply Kd.zsa)); exact HO_4.out)) (by decide) hg); replace BK203 := zaa.mk (blk_grown (g := gb203) (o := .cells #[.int .i64 a0_0, .int .i64 a0_1, .slice A0_2 l0_2.length c0_2] 72 (0, 0)) (by (with_reducible repeat (first | refine zga ?_ _ | refine zha ?_ | refine zfa ?_ _)); exact BK203.out) hg (Kd.R_ne HO_4.out BK203.out (by decide))); replace HB := zaa.mk (hb); have HO211 := zaa.mk (ho); clear HO_4; clear ho hb hg hat))
               (try simp only [← hl6_2])
               go_roundg k2
               case measure => have := HK1.out; have := HK2.out; omega
               case rel => exact ⟨(y209), (wrap64 (x11_1 + 1)), (by first | rfl | (simp; done) | (simp [*]; done)), H', ⟨by have := HK1.out; have := HK2.out; omega⟩, ⟨by (try simp only [hl6_2]); (with_reducible repeat (first | apply Kd.zqa | apply Kd.zpa | apply Kd.zsa)); exact HO211.out⟩, ⟨by (try simp only [hl6_2]); (with_reducible repeat (first | refine zga ?_ _ | refine zha ?_ | refine zfa ?_ _)); exact BK203.out⟩, ⟨by repeat (first | (with_reducible first | exact HB.out | apply zda | apply zba | apply zca | refine zea ?_ GE203.out) | exact HB.out)⟩⟩
             · rw [if_neg c19] at H
               exact absurd H (by simp)
       · rw [if_neg c7] at H
         exact absurd H (by simp)
     · rw [if_neg c6] at H
       exact absurd H (by simp)
   · rw [if_neg c5] at H
     have c5b0 : decide (x11_1 < a0_1) = false := decide_eq_false c5
     clear c5
     obtain rfl := Option.some.inj H
     go_wp2
     go_ret
     exact ⟨_, by first | rfl | (simp [zwa, zva] <;> rfl) | (simp [*, zwa, zva] <;> rfl), by (with_reducible repeat (first | apply Kd.zqa | apply Kd.zpa | apply Kd.zsa)); exact HO_4.out, by repeat (first | (with_reducible first | exact HB.out | apply zda | apply zba | apply zca | refine zea ?_ GE203.out) | exact HB.out)⟩
end Go.Proofs.YtoacbkoenkiahaaGreat.PTopGluePlate
end
section
namespace Go.Proofs.YtoacbkoenkiahaaGreat.PTopGluePlate
open Go.RowKit Go.Proofs.YtoacbkoenkiahaaGreatW.PrintWords Go.Proofs.YtoacbkoenkiahaaGreatW.PrintLast Go.Proofs.YtoacbkoenkiahaaGreatW.PrintMore
attribute [local go_sem] znb zlb zhc zgc zeb zdb zmb zkb
set_option linter.unusedVariables false
set_option linter.unusedSimpArgs false
def zyd.f (l0 : List (S45))  : Option Bool := containsO (fun (x : S45) => print_Show_1.f x.f0 x.f1 ) l0
set_option maxHeartbeats 1000000 in
theorem zyd.calls (A0 : Option Addr) (c0 : Nat) (l0 : List (S45))  (r : Bool) (w : World) (hr0 : Kd.C k45 w A0 l0.length l0) (hc0 : l0.length ≤ c0) (h : zyd.f l0  = some r) :
 Calls Tryz.prog 21 #[.slice A0 l0.length c0, .func (.func 19) #[] #[]] w fun e w' => e = .returned (.bool r) ∧ Below w.heap.size w w' := by
 have eg : ∀ args w, (callFunc 19 args).run Tryz.prog w = .ok (.enter 19 args) w := enters_of Tryz.func19 (by kernel_rfl) rfl
 refine slices_ContainsFunc_api_PrintShift.calls 19 #[] (fun (x : S45) => print_Show_1.f x.f0 x.f1 ) A0 c0 l0 r w hr0 hc0 eg ?_ h
 intro W x hx hW b hb
 refine (print_Show_1.calls x.f0 x.f1 b W  hb).mono ?_
 rintro e w' ⟨rfl, hd⟩; exact ⟨rfl, hd⟩
def zec.l0 : Nat → List (S45) → List (List Int) → List (List Int) → Int → Int → Int → Int → List (List Int) → Option (List ByteArray × Int)
 | 0, _, _, _, _, _, _, _, _ => none
 | k + 1, x1, x9, x33, x34, x35, x220000, x220001, x220002 => if x35 < x34 then (if 0 ≤ x35 then (if x35 < (x33.length : Int) then (if x35 < (x1.length : Int) then ((zjb.f k x220000 x220001 x220002 (rd_L3 x33 x35) ((rd_T45 x1 x35).f0) ((rd_T45 x1 x35).f1)).bind fun t223 => (if x9.length < 5864062014805 then (zec.l0 k x1 (x9 ++ [t223]) x33 x34 (wrap64 (x35 + 1)) x220000 x220001 x220002) else (none))) else (none)) else (none)) else (none)) else ((zdd.f k x220000 x220001 x220002 x9).bind fun t229 => (some (t229, 0)))
def zec.f (k : Nat) (a0_0 : Int) (a0_1 : Int) (l0_2 : List (List Int)) (l1 : List (S45)) : Option (List ByteArray × Int) := (zud.f k a0_0 a0_1 l0_2).bind fun bt213 => (if bt213.2.2.2 = 0 then (if (l1.length : Int) = (l0_2.length : Int) then ((zyd.f l1).bind fun t220 => (if t220 = true then (none) else (zec.l0 k l1 ([] : List (List Int)) l0_2 (l0_2.length : Int) 0 bt213.1 bt213.2.1 bt213.2.2.1))) else (none)) else (none))
def zec.T13 : Bool × List (List Nat × List Nat) := (true, [([], []), ([], []), ([], []), ([], []), ([], []), ([3, 4], [3, 4]), ([5], [5]), ([1, 2, 6], [1, 2, 6]), ([7], [7]), ([0, 8, 7], [0, 8]), ([9, 9, 0, 1, 2, 3, 4, 5, 6, 7, 8, 9], [0, 9])])
def zec.B13 : List Nat := [0, 0, 0, 0, 0, 24, 56, 126, 254, 511, 1023]
theorem zec.tab13 : rtab .any (opsOf Tryz.f8 13) = zec.T13 := by kernel_rfl
theorem zec.bits13 : waitsOk zec.T13.2 zec.B13 = true := by kernel_rfl
set_option maxHeartbeats 8000000 in
set_option maxRecDepth 100000 in
theorem zec.calls (k : Nat) (a0_0 : Int) (a0_1 : Int) (A0_2 : Option Addr) (c0_2 : Nat) (l0_2 : List (List Int)) (A1 : Option Addr) (c1 : Nat) (l1 : List (S45)) (r1 : List ByteArray) (r2 : Int) (w : World) (hr0_2 : Kd.C (Kd.slice 3 (Kd.int .i64)) w A0_2 l0_2.length l0_2) (hc0_2 : l0_2.length ≤ c0_2) (hr1 : Kd.C k45 w A1 l1.length l1) (hc1 : l1.length ≤ c1) (h : zec.f k a0_0 a0_1 l0_2 l1 = some (r1, r2)) :
 Calls Tryz.prog 8 #[.agg #[.int .i64 a0_0, .int .i64 a0_1, .slice A0_2 l0_2.length c0_2], .slice A1 l1.length c1] w fun e w' => ∃ v0_ : Value, e = .returned (.tuple #[v0_, .int .i64 r2]) ∧ Kd.R Kd.string 9 w' w.heap.size (fun _ => True) v0_ r1 ∧ Below w.heap.size w w' := by
 have hu40 := Tryz.underlying40
 have hu72 := Tryz.underlying72
 have hu45 := Tryz.underlying45
 have HR0_2 := zaa.mk hr0_2
 have HC0_2 := zaa.mk hc0_2
 clear hr0_2 hc0_2
 have HR1 := zaa.mk hr1
 have HC1 := zaa.mk hc1
 clear hr1 hc1
 have HB := zaa.mk (Below.refl w.heap.size w)
 have H : ((zud.f k a0_0 a0_1 l0_2).bind fun bt213 => (if bt213.2.2.2 = 0 then (if (l1.length : Int) = (l0_2.length : Int) then ((zyd.f l1).bind fun t220 => (if t220 = true then (none) else (zec.l0 k l1 ([] : List (List Int)) l0_2 (l0_2.length : Int) 0 bt213.1 bt213.2.1 bt213.2.2.1))) else (none)) else (none))) = some (r1, r2) := h
 clear h
 replace H := Option.bind_eq_some_iff.mp H
 obtain ⟨⟨t213, t214, t215, t218⟩, A30, H⟩ := H
 replace H : (if t218 = 0 then (if (l1.length : Int) = (l0_2.length : Int) then ((zyd.f l1).bind fun t220 => (if t220 = true then (none) else (zec.l0 k l1 ([] : List (List Int)) l0_2 (l0_2.length : Int) 0 t213 t214 t215))) else (none)) else (none)) = some (r1, r2) := H
 have A3 := zaa.mk A30
 clear A30
 by_cases c4 : t218 = 0
 · rw [if_pos c4] at H
   have c4b0 : (t218 == 0) = true := beq_iff_eq.mpr c4
   have c4b1 : (t218 != 0) = false := bne_eq_false_iff_eq.mpr c4
   clear c4
   by_cases c5 : (l1.length : Int) = (l0_2.length : Int)
   · rw [if_pos c5] at H
     have c5b0 : ((l1.length : Int) == (l0_2.length : Int)) = true := beq_iff_eq.mpr c5
     have c5b1 : ((l1.length : Int) != (l0_2.length : Int)) = false := bne_eq_false_iff_eq.mpr c5
     have c5b2 : (l1.length == l0_2.length) = true := by first | simpa using c5 | (simp at c5 ⊢; omega)
     clear c5
     replace H := Option.bind_eq_some_iff.mp H
     obtain ⟨t220, A60, H⟩ := H
     replace H : (if t220 = true then (none) else (zec.l0 k l1 ([] : List (List Int)) l0_2 (l0_2.length : Int) 0 t213 t214 t215)) = some (r1, r2) := H
     have A6 := zaa.mk A60
     clear A60
     by_cases c7 : t220 = true
     · subst c7
       have H1 : (none) = some (r1, r2) := by rw [if_pos rfl] at H; exact H
       clear H
       have H := H1
       clear H1
       exact absurd H (by simp)
     · replace c7 := Bool.eq_false_iff.mpr c7
       subst c7
       have H1 : (zec.l0 k l1 ([] : List (List Int)) l0_2 (l0_2.length : Int) 0 t213 t214 t215) = some (r1, r2) := by rw [if_neg (show ¬ (false = true) by decide)] at H; exact H
       clear H
       have H := H1
       clear H1
       have H' := zaa.mk H
       clear H
       go_enter Tryz.func8, Tryz.ntmps8
       go_wp2_with (first | ((with_reducible refine zbb (N := 2) rfl ?_); refine zob ?hg (N := 2) ?hd (cs := #[.int .i64 a0_0, .int .i64 a0_1, .slice A0_2 l0_2.length c0_2]) (t := 40) ?hr ?_; (case hd => rfl); (case hg => rfl); (case hr => first | (go_simp; done) | (go_simp; rfl)); intro gb212 hg w8 hbox hb; have BK212 := zaa.mk (hbox); have GW212 := zaa.mk ((by rw [hg]; exact (zja (by repeat (first | (with_reducible first | exact HB.out | apply zda | apply zba | apply zca) | exact HB.out))) : w.heap.size ≤ gb212)); have GE212 := zaa.mk ((by rw [hg]; exact (zja (by repeat (first | (with_reducible first | exact HB.out | apply zda | apply zba | apply zca) | exact HB.out))) : w.heap.size ≤ gb212)); replace HB := zaa.mk (zma (by repeat (first | (with_reducible first | exact HB.out | apply zda | apply zba | apply zca) | exact HB.out)) hb); clear hb hbox hg; have hcz9_0 : w8.cell? ⟨gb212, 0, none⟩ = some (.int .i64 a0_0) := (zla BK212.out 0).trans rfl; have hcz9_1 : w8.cell? ⟨gb212, 1, none⟩ = some (.int .i64 a0_1) := (zla BK212.out 1).trans rfl; have hcz9_2 : w8.cell? ⟨gb212, 2, none⟩ = some (.slice A0_2 l0_2.length c0_2) := (zla BK212.out 2).trans rfl; have hfz9_0 := zka BK212.out 0; have hfz9_1 := zka BK212.out 1; have hfz9_2 := zka BK212.out 2) | ((with_reducible refine zxa (f := 18) rfl ?_); refine zhd (some 14) rfl rfl Tryz.func18 (by kernel_rfl) rfl #[.agg #[.int .i64 a0_0, .int .i64 a0_1, .slice A0_2 l0_2.length c0_2]] rfl (by (try simp only [List.map_toArray, List.map_cons, List.map_nil]); first | done | rfl | (simp only [List.length_drop, List.length_take]; rfl)) ?_; (with_reducible refine (zud.calls k a0_0 a0_1 (fun k_ => k_ < w.heap.size) _ _ l0_2 t213 t214 t215 t218 _ ?side1 A3.out).mono ?_); (case side1 => exact Kd.V_mk HC0_2.out (Kd.F_below (Kd.C_F (Kd.heap_slice 3 (Kd.heap_int .i64)) HR0_2.out) (by repeat (first | (with_reducible first | exact HB.out | apply zda | apply zba | apply zca | refine zea ?_ GE212.out) | exact HB.out)))); rintro e w10 ⟨v216, rfl, ho0, hb⟩; refine ⟨_, rfl, ?_⟩; have HO217 := zaa.mk (Kd.V_lower (Kd.zcc (ok' := fun k_ => k_ ≠ gb212) ho0 (fun k_ hk_ => Or.elim hk_ (fun hs_ => fun e_ => Nat.not_le.2 hs_ (by rw [e_]; exact GW212.out)) (fun hn_ => (Kd.freshB (g := gb212) (o := .cells #[.int .i64 a0_0, .int .i64 a0_1, .slice A0_2 l0_2.length c0_2] 40 (0, 0)) (by (with_reducible repeat (first | refine zga ?_ _ | refine zha ?_ | refine zfa ?_ _)); exact BK212.out) k_ hn_)))) (zja (by repeat (first | (with_reducible first | exact HB.out | apply zda | apply zba | apply zca | refine zea ?_ GE212.out) | exact HB.out)))); replace BK212 := zaa.mk (zna (g := gb212) (o := .cells #[.int .i64 a0_0, .int .i64 a0_1, .slice A0_2 l0_2.length c0_2] 40 (0, 0)) (by (with_reducible repeat (first | refine zga ?_ _ | refine zha ?_ | refine zfa ?_ _)); exact BK212.out) hb); replace HB := zaa.mk (zma (by repeat (first | (with_reducible first | exact HB.out | apply zda | apply zba | apply zca | refine zea ?_ GE212.out) | exact HB.out)) hb); (try clear hb); (try clear hb2); (try clear hk); (try clear hi); (try clear ho0)) | ((with_reducible refine zbb (N := 6) rfl ?_); refine zob ?hg (N := 6) ?hd (cs := #[.int .i64 0, .int .i64 0, .slice none 0 0]) (t := 72) ?hr ?_; (case hd => rfl); (case hg => rfl); (case hr => first | (go_simp; done) | (go_simp; rfl)); intro gb219 hg w11 hbox hb; replace HO217 := zaa.mk (Kd.zqc (Kd.zld (by (with_reducible repeat (first | apply Kd.zza | apply Kd.zya | apply Kd.zib)); exact HO217.out) gb219 (Nat.le_of_eq hg.symm)) hb); have BK219 := zaa.mk (hbox); have GW219 := zaa.mk ((by rw [hg]; exact (zja (by repeat (first | (with_reducible first | exact HB.out | apply zda | apply zba | apply zca | refine zea ?_ GE212.out) | exact HB.out))) : w.heap.size ≤ gb219)); have GE219 := zaa.mk ((by rw [hg]; exact (zja (by repeat (first | (with_reducible first | exact HB.out | apply zda | apply zba | apply zca | refine zea ?_ GE212.out) | exact HB.out))) : w.heap.size ≤ gb219)); replace HB := zaa.mk (zma (by repeat (first | (with_reducible first | exact HB.out | apply zda | apply zba | apply zca | refine zea ?_ GE212.out) | exact HB.out)) hb); have NB212_219 := zaa.mk ((by rw [hg]; exact Nat.ne_of_lt (zbc (g := gb212) (o := .cells #[.int .i64 a0_0, .int .i64 a0_1, .slice A0_2 l0_2.length c0_2] 40 (0, 0)) (by (with_reducible repeat (first | refine zga ?_ _ | refine zha ?_ | refine zfa ?_ _)); exact BK212.out)) : gb212 ≠ gb219)); have NB219_212 := zaa.mk ((by rw [hg]; exact Nat.ne_of_gt (zbc (g := gb212) (o := .cells #[.int .i64 a0_0, .int .i64 a0_1, .slice A0_2 l0_2.length c0_2] 40 (0, 0)) (by (with_reducible repeat (first | refine zga ?_ _ | refine zha ?_ | refine zfa ?_ _)); exact BK212.out)) : gb219 ≠ gb212)); replace BK212 := zaa.mk (zna (g := gb212) (o := .cells #[.int .i64 a0_0, .int .i64 a0_1, .slice A0_2 l0_2.length c0_2] 40 (0, 0)) (by (with_reducible repeat (first | refine zga ?_ _ | refine zha ?_ | refine zfa ?_ _)); exact BK212.out) hb); clear hb hbox hg; have hnb12 := NB219_212.out; have hnc12 := NB212_219.out; have hcz13_0 : w11.cell? ⟨gb219, 0, none⟩ = some (.int .i64 0) := (zla BK219.out 0).trans rfl; have hcz13_1 : w11.cell? ⟨gb219, 1, none⟩ = some (.int .i64 0) := (zla BK219.out 1).trans rfl; have hcz13_2 : w11.cell? ⟨gb219, 2, none⟩ = some (.slice none 0 0) := (zla BK219.out 2).trans rfl; have hfz13_0 := zka BK219.out 0; have hfz13_1 := zka BK219.out 1; have hfz13_2 := zka BK219.out 2; obtain ⟨Ao14, co14, eo14⟩ := Kd.V_slice HO217.out; subst eo14; have hcz15_0 : w11.cell? ⟨gb212, 0, none⟩ = some (.int .i64 a0_0) := (zla BK212.out 0).trans rfl; have hcz15_1 : w11.cell? ⟨gb212, 1, none⟩ = some (.int .i64 a0_1) := (zla BK212.out 1).trans rfl; have hcz15_2 : w11.cell? ⟨gb212, 2, none⟩ = some (.slice A0_2 l0_2.length c0_2) := (zla BK212.out 2).trans rfl; have hfz15_0 := zka BK212.out 0; have hfz15_1 := zka BK212.out 1; have hfz15_2 := zka BK212.out 2) | ((with_reducible refine zxa (f := 21) rfl ?_); refine zhd (some 31) rfl rfl Tryz.func21 (by kernel_rfl) rfl #[.slice A1 l1.length c1, .func (.func 19) #[] #[]] rfl (by (try simp only [List.map_toArray, List.map_cons, List.map_nil]); first | done | rfl | (simp only [List.length_drop, List.length_take]; rfl)) ?_; (with_reducible refine (zyd.calls _ _ l1  false _ ?side1 ?side2 A6.out).mono ?_); (case side1 => exact Kd.zkc HR1.out (by repeat (first | (with_reducible first | exact HB.out | apply zda | apply zba | apply zca | refine zea ?_ GE212.out | refine zea ?_ GE219.out) | exact HB.out))); (case side2 => exact HC1.out); rintro e w16 ⟨rfl, hb⟩; refine ⟨_, rfl, ?_⟩; replace HO217 := zaa.mk (Kd.zqc (by (with_reducible repeat (first | apply Kd.zza | apply Kd.zya | apply Kd.zib)); exact (Kd.zcc (Kd.zbe (p := ⟨gb219, 2, none⟩) (Kd.zbe (p := ⟨gb219, 1, none⟩) (Kd.zbe (p := ⟨gb219, 0, none⟩) (Kd.zcc HO217.out (fun k_ hk => (⟨hk, hk.2⟩ : _ ∧ k_ ≠ gb219))) (fun _ hk => hk.2) (.int .i64 t213)) (fun _ hk => hk.2) (.int .i64 t214)) (fun _ hk => hk.2) (.slice Ao14 t215.length co14)) (fun _ h_ => h_.1))) hb); replace BK212 := zaa.mk (zna (g := gb212) (o := .cells #[.int .i64 a0_0, .int .i64 a0_1, .slice A0_2 l0_2.length c0_2] 40 (0, 0)) (by (with_reducible repeat (first | refine zga ?_ _ | refine zha ?_ | refine zfa ?_ _)); refine zsc ?_ NB212_219.out _; (with_reducible repeat (first | refine zga ?_ _ | refine zha ?_ | refine zfa ?_ _)); refine zsc ?_ NB212_219.out _; (with_reducible repeat (first | refine zga ?_ _ | refine zha ?_ | refine zfa ?_ _)); refine zsc ?_ NB212_219.out _; (with_reducible repeat (first | refine zga ?_ _ | refine zha ?_ | refine zfa ?_ _)); exact BK212.out) hb); replace BK219 := zaa.mk (zna (g := gb219) (o := .cells #[.int .i64 t213, .int .i64 t214, .slice Ao14 t215.length co14] 72 (0, 0)) (by (with_reducible repeat (first | refine zga ?_ _ | refine zha ?_ | refine zfa ?_ _)); refine zzc (cs := #[.int .i64 t213, .int .i64 t214, .slice none 0 0]) ?_ 2 _ rfl; (with_reducible repeat (first | refine zga ?_ _ | refine zha ?_ | refine zfa ?_ _)); refine zzc (cs := #[.int .i64 t213, .int .i64 0, .slice none 0 0]) ?_ 1 _ rfl; (with_reducible repeat (first | refine zga ?_ _ | refine zha ?_ | refine zfa ?_ _)); refine zzc (cs := #[.int .i64 0, .int .i64 0, .slice none 0 0]) ?_ 0 _ rfl; (with_reducible repeat (first | refine zga ?_ _ | refine zha ?_ | refine zfa ?_ _)); exact BK219.out) hb); replace HB := zaa.mk (zma (by repeat (first | (with_reducible first | exact HB.out | apply zda | apply zba | apply zca | refine zea ?_ GE212.out | refine zea ?_ GE219.out) | exact HB.out)) hb); (try clear hb); (try clear hb2); (try clear hk); (try clear hi); have hcz17_0 : w16.cell? ⟨gb212, 0, none⟩ = some (.int .i64 a0_0) := (zla BK212.out 0).trans rfl; have hcz17_1 : w16.cell? ⟨gb212, 1, none⟩ = some (.int .i64 a0_1) := (zla BK212.out 1).trans rfl; have hcz17_2 : w16.cell? ⟨gb212, 2, none⟩ = some (.slice A0_2 l0_2.length c0_2) := (zla BK212.out 2).trans rfl; have hfz17_0 := zka BK212.out 0; have hfz17_1 := zka BK212.out 1; have hfz17_2 := zka BK212.out 2))
       go_loopg [9, 35] k (fun kq v9 v35 w' => ∃ (x9_1 : List (List Int)) (x35_1 : Int), v35 = .int .i64 x35_1 ∧ zaa (zec.l0 kq l1 x9_1 l0_2 (l0_2.length : Int) x35_1 t213 t214 t215 = some (r1, r2)) ∧ zaa (kq ≤ k) ∧ zaa (Kd.S (Kd.slice 3 (Kd.int .i64)) 79 w' w.heap.size (fun _ => True) v9 x9_1) ∧ zaa (Kd.V (Kd.slice 3 (Kd.int .i64)) 24 w' w.heap.size (fun k_ => some k_ ≠ (v9 : Value).ownBlock ∧ k_ ≠ gb212 ∧ k_ ≠ gb219) (.slice Ao14 t215.length co14) t215) ∧ zaa (w'.heap[gb212]? = some (.cells #[.int .i64 a0_0, .int .i64 a0_1, (.slice A0_2 l0_2.length c0_2)] 40 (0, 0))) ∧ zaa (w'.heap[gb219]? = some (.cells #[.int .i64 t213, .int .i64 t214, (.slice Ao14 t215.length co14)] 72 (0, 0))) ∧ zaa (Below w.heap.size w w'))
       case atStart => exact ⟨(([] : List (List Int))), (0), (by first | rfl | (simp; done) | (simp [*]; done)), H', ⟨Nat.le_refl _⟩, ⟨by first | exact Kd.S_nil _ _ _ _ _ | exact Kd.N_nil _ _ _ _ _ | exact Kd.V_nil _ _ _ _ _ | exact Kd.Q_nil _ _ _ _ _ | exact Kd.R_nil _ _ _ _ _⟩, ⟨by (with_reducible repeat (first | apply Kd.zza | apply Kd.zya | apply Kd.zib)); exact Kd.zcc HO217.out (fun _ hk => ⟨(by simp [Value.ownBlock]), ⟨hk.1, hk.2⟩⟩)⟩, ⟨by (with_reducible repeat (first | refine zga ?_ _ | refine zha ?_ | refine zfa ?_ _)); exact BK212.out⟩, ⟨by (with_reducible repeat (first | refine zga ?_ _ | refine zha ?_ | refine zfa ?_ _)); exact BK219.out⟩, ⟨by repeat (first | (with_reducible first | exact HB.out | apply zda | apply zba | apply zca | refine zea ?_ GE212.out | refine zea ?_ GE219.out) | exact HB.out)⟩⟩
       case round =>
        clear H'
        try clear c1
        try clear c2
        try clear p2
        try clear c4
        try clear c4b0
        try clear c4b1
        try clear c5
        try clear c5b0
        try clear c5b1
        try clear c5b2
        try clear c7
        try clear c8
        try clear c12
        try clear hcz13_0
        try clear hcz13_1
        try clear hcz13_2
        try clear hcz15_0
        try clear hcz15_1
        try clear hcz15_2
        try clear hcz17_0
        try clear hcz17_1
        try clear hcz17_2
        try clear hcz9_0
        try clear hcz9_1
        try clear hcz9_2
        try clear hfz13_0
        try clear hfz13_1
        try clear hfz13_2
        try clear hfz15_0
        try clear hfz15_1
        try clear hfz15_2
        try clear hfz17_0
        try clear hfz17_1
        try clear hfz17_2
        try clear hfz9_0
        try clear hfz9_1
        try clear hfz9_2
        obtain ⟨x9_1, x35_1, rfl, HA, HK1, HO_9, HO_220002, BK212, BK219, HB⟩ := hrel
        cases gk with
        | zero => exact absurd HA.out (by simp [zec.l0])
        | succ k1 =>
         have H := HA.out
         clear HA
         simp only [zec.l0] at H
         by_cases c18 : x35_1 < (l0_2.length : Int)
         · rw [if_pos c18] at H
           have c18b0 : decide (x35_1 < (l0_2.length : Int)) = true := decide_eq_true c18
           clear c18
           by_cases c19 : 0 ≤ x35_1
           · rw [if_pos c19] at H
             have c19b0 : decide (0 ≤ x35_1) = true := decide_eq_true c19
             clear c19
             by_cases c20 : x35_1 < (l0_2.length : Int)
             · rw [if_pos c20] at H
               have c20b0 : decide (x35_1 < (l0_2.length : Int)) = true := decide_eq_true c20
               clear c20
               by_cases c21 : x35_1 < (l1.length : Int)
               · rw [if_pos c21] at H
                 have c21b0 : decide (x35_1 < (l1.length : Int)) = true := decide_eq_true c21
                 clear c21
                 replace H := Option.bind_eq_some_iff.mp H
                 obtain ⟨t223, A220, H⟩ := H
                 replace H : (if x9_1.length < 5864062014805 then (zec.l0 k1 l1 (x9_1 ++ [t223]) l0_2 (l0_2.length : Int) (wrap64 (x35_1 + 1)) t213 t214 t215) else (none)) = some (r1, r2) := H
                 have A22 := zaa.mk A220
                 clear A220
                 by_cases c23 : x9_1.length < 5864062014805
                 · rw [if_pos c23] at H
                   have LMc23 := zaa.mk c23
                   clear c23
                   obtain ⟨y226, hy226⟩ : ∃ y_ : List (List Int), y_ = (x9_1 ++ [t223]) := ⟨_, rfl⟩
                   replace H : (zec.l0 k1 l1 y226 l0_2 (l0_2.length : Int) (wrap64 (x35_1 + 1)) t213 t214 t215) = some (r1, r2) := by first | (rw [hy226]; with_reducible exact H) | (have H2_ := (Option.bind_some _ _).symm.trans H; rw [hy226]; with_reducible exact H2_) | (have H2_ := (Option.bind_some _ _).symm.trans H; with_reducible exact H2_) | with_reducible exact H | (rw [hy226]; exact H) | exact H
                   have Ny226 := zaa.mk hy226
                   clear hy226
                   have H' := zaa.mk H
                   clear H
                   have p221 : 0 ≤ (x35_1 : Int) := of_decide_eq_true (by first | (with_reducible assumption) | assumption)
                   have q221 : x35_1 < (l0_2.length : Int) := of_decide_eq_true (by first | (with_reducible assumption) | assumption)
                   obtain ⟨ad221, A221_0, c221_0, e221, hx221_0, hl221_0, hi221_0⟩ := at_L3 HR0_2.out x35_1 p221 q221
                   cases e221
                   replace hx221_0 := (HB.out.cell (World.block_lt_of_cell? w _ hx221_0)).trans hx221_0
                   have HR221_0 := zaa.mk hi221_0
                   have HC221_0 := zaa.mk hl221_0
                   clear hi221_0 hl221_0
                   replace p221 := eq_true p221
                   replace q221 := eq_true q221
                   try go_wp2
                   replace HO_9 := zaa.mk (Kd.S_drew HO_9.out)
                   replace HO_220002 := zaa.mk (Kd.zib HO_220002.out)
                   replace BK212 := zaa.mk (zha BK212.out)
                   replace BK219 := zaa.mk (zha BK219.out)
                   replace HB := zaa.mk (zca HB.out)
                   have p222 : 0 ≤ (x35_1 : Int) := of_decide_eq_true (by first | (with_reducible assumption) | assumption)
                   have q222 : x35_1 < (l1.length : Int) := of_decide_eq_true (by first | (with_reducible assumption) | assumption)
                   obtain ⟨ad222, e222, hx222_0, hx222_1⟩ := at_T45 HR1.out x35_1 p222 q222
                   have hw222_1 := hx222_1
                   have hw222_0 := hx222_0
                   cases e222
                   replace hx222_0 := (HB.out.cell (World.block_lt_of_cell? w _ hx222_0)).trans hx222_0
                   replace hx222_1 := (HB.out.cell (World.block_lt_of_cell? w _ hx222_1)).trans hx222_1
                   replace p222 := eq_true p222
                   replace q222 := eq_true q222
                   refine start_ (n := 11) (S := fun w' => w'.cell? ⟨gb219, 0, none⟩ = some (.int .i64 t213) ∧ w'.cell? ⟨gb219, 1, none⟩ = some (.int .i64 t214) ∧ w'.cell? ⟨gb219, 2, none⟩ = some (.slice Ao14 t215.length co14) ∧ w'.cell? (ad222.add ((x35_1).toNat * 2)) = some (.int .i64 ((rd_T45 l1 x35_1).f0)) ∧ w'.cell? ⟨(ad222.add ((x35_1).toNat * 2)).block, (ad222.add ((x35_1).toNat * 2)).off + 1, none⟩ = some (.int .i64 ((rd_T45 l1 x35_1).f1))) (ds := []) #[false, false, false, false, false, false, false, false, false, false, false] (by kernel_rfl) rfl rfl ⟨(zla BK219.out 0).trans rfl, (zla BK219.out 1).trans rfl, (zla BK219.out 2).trans rfl, ((HB.out.cell (World.block_lt_of_cell? w _ hw222_0)).trans hw222_0), ((HB.out.cell (World.block_lt_of_cell? w _ hw222_1)).trans hw222_1)⟩ (fun hHeld => ?_); refine with_tabW zec.tab13 zec.bits13 (fun HT_ HW_ => ?_)
                   generalize wr.drew = w24 at HO_9 HO_220002 BK212 BK219 HB hx222_0 hx222_1 hHeld ⊢
                   refine zxc (i := 0) (N := some 40) (v := ?_) (a' := ?_) #[true, false, false, false, false, false, false, false, false, false, false] rfl rfl (zyb HT_.out (by kernel_rfl)) (fun _ _ _ h => h) (Or.inl ⟨by rfl, ?_⟩) ?_ ?_
                   rotate_left
                   · intro w'
                     go_simp
                     with_reducible rfl
                   rotate_left
                   · simp only [Act.put, List.setIfInBounds_toArray, List.set_cons_zero, List.set_cons_succ, zpb, zzb]
                     rfl
                   refine zxc (i := 2) (N := some 42) (v := ?_) (a' := ?_) #[true, false, true, false, false, false, false, false, false, false, false] rfl rfl (zyb HT_.out (by kernel_rfl)) (fun _ _ _ h => h) (Or.inl ⟨by rfl, ?_⟩) ?_ ?_
                   rotate_left
                   · intro w'
                     go_simp
                     with_reducible rfl
                   rotate_left
                   · simp only [Act.put, List.setIfInBounds_toArray, List.set_cons_zero, List.set_cons_succ, zpb, zzb]
                     rfl
                   refine zxc (i := 3) (N := some 43) (v := ?_) (a' := ?_) #[true, false, true, true, false, false, false, false, false, false, false] rfl rfl (zyb HT_.out (by kernel_rfl)) (fun _ _ _ h => h) (Or.inl ⟨by rfl, ?_⟩) ?_ ?_
                   rotate_left
                   · intro w'
                     go_simp
                     with_reducible rfl
                   rotate_left
                   · simp only [Act.put, List.setIfInBounds_toArray, List.set_cons_zero, List.set_cons_succ, zpb, zzb]
                     rfl
                   refine zxc (i := 4) (N := some 44) (v := ?_) (a' := ?_) #[true, false, true, true, true, false, false, false, false, false, false] rfl rfl (zyb HT_.out (by kernel_rfl)) (fun _ _ _ h => h) (Or.inl ⟨by rfl, ?_⟩) ?_ ?_
                   rotate_left
                   · intro w'
                     go_simp
                     with_reducible rfl
                   rotate_left
                   · simp only [Act.put, List.setIfInBounds_toArray, List.set_cons_zero, List.set_cons_succ, zpb, zzb]
                     rfl
                   refine zxc (i := 5) (N := some 45) (v := ?_) (a' := ?_) #[true, false, true, true, true, true, false, false, false, false, false] rfl rfl (zyb HT_.out (by kernel_rfl)) (fun _ _ _ h => h) (Or.inl ⟨by rfl, ?_⟩) ?_ ?_
                   rotate_left
                   · intro w'
                     go_simp
                     with_reducible rfl
                   rotate_left
                   · simp only [Act.put, List.setIfInBounds_toArray, List.set_cons_zero, List.set_cons_succ, zpb, zzb]
                     rfl
                   refine take_ (i := 1) (N := some 41) (v := ?_) (a' := ?_) #[true, true, true, true, true, true, false, false, false, false, false] rfl rfl (zge HT_.out HW_.out (by kernel_rfl)) (fun _ _ _ h => h) (Or.inl ⟨by rfl, ?_⟩) hHeld ?_ ?_
                   rotate_left
                   · rintro w' ⟨s0, s1, s2, s3, s4⟩
                     go_simp
                     with_reducible rfl
                   rotate_left
                   · simp only [Act.put, List.setIfInBounds_toArray, List.set_cons_zero, List.set_cons_succ, zpb, zzb]
                     rfl
                   refine take_ (i := 6) (N := some 46) (v := ?_) (a' := ?_) #[true, true, true, true, true, true, true, false, false, false, false] rfl rfl (zge HT_.out HW_.out (by kernel_rfl)) (fun _ _ _ h => h) (Or.inl ⟨by rfl, ?_⟩) hHeld ?_ ?_
                   rotate_left
                   · rintro w' ⟨s0, s1, s2, s3, s4⟩
                     go_simp
                     with_reducible rfl
                   rotate_left
                   · simp only [Act.put, List.setIfInBounds_toArray, List.set_cons_zero, List.set_cons_succ, zpb, zzb]
                     rfl
                   refine one_ (i := 7) (N := some 47) #[true, true, true, true, true, true, true, true, false, false, false] rfl rfl (one_of HT_.out (by kernel_rfl)) (by decide) (fun K hK => ?_)
                   refine goes_ Tryz.func22 (by kernel_rfl) rfl #[.agg #[.int .i64 t213, .int .i64 t214, .slice Ao14 t215.length co14], .slice A221_0 (rd_L3 l0_2 x35_1).length c221_0, .agg #[.int .i64 ((rd_T45 l1 x35_1).f0), .int .i64 ((rd_T45 l1 x35_1).f1)]] (by rfl) rfl rfl (by (try simp only [List.map_toArray, List.map_cons, List.map_nil]); first | done | rfl | (simp only [List.length_drop, List.length_take]; rfl)) ?_
                   with_reducible refine (zjb.calls k1 t213 t214 _ _ t215 _ _ (rd_L3 l0_2 x35_1) ((rd_T45 l1 x35_1).f0) ((rd_T45 l1 x35_1).f1) t223 _ ?side1 ?side2 ?side3 ?side4 A22.out).mono ?_
                   (case side1 => repeat (first | exact (Kd.zwd HO_220002.out).2.2 | (with_reducible refine Kd.zrb ?_ _) | (with_reducible refine Kd.zqb ?_ _) | (with_reducible refine Kd.zmc ?_)))
                   (case side2 => exact (Kd.zwd HO_220002.out).2.1)
                   (case side3 => repeat (first | exact (Kd.zkc HR221_0.out HB.out) | (with_reducible refine Kd.zrb ?_ _) | (with_reducible refine Kd.zqb ?_ _) | (with_reducible refine Kd.zmc ?_)))
                   (case side4 => exact HC221_0.out)
                   rintro e w25 ⟨v224, rfl, ho0, hb⟩
                   refine ⟨_, rfl, ?_⟩
                   replace HO_9 := zaa.mk (Kd.S_elder' (by (with_reducible repeat (first | apply Kd.S_alloc | apply Kd.S_drewN | apply Kd.S_drew)); exact HO_9.out) (Kd.zxd ho0) hb)
                   replace HO_220002 := zaa.mk (Kd.V_elder' (by (with_reducible repeat (first | apply Kd.zza | apply Kd.zya | apply Kd.zib)); exact HO_220002.out) (Kd.zxd ho0) hb)
                   have HO225 := zaa.mk (Kd.znd ho0 (zja (by repeat (first | (with_reducible first | exact HB.out | apply zda | apply zba | apply zca | refine zea ?_ GE212.out | refine zea ?_ GE219.out) | exact HB.out))))
                   replace BK212 := zaa.mk (zna (g := gb212) (o := .cells #[.int .i64 a0_0, .int .i64 a0_1, .slice (some ad221) l0_2.length c0_2] 40 (0, 0)) (by (with_reducible repeat (first | refine zga ?_ _ | refine zha ?_ | refine zfa ?_ _)); exact BK212.out) hb)
                   replace BK219 := zaa.mk (zna (g := gb219) (o := .cells #[.int .i64 t213, .int .i64 t214, .slice Ao14 t215.length co14] 72 (0, 0)) (by (with_reducible repeat (first | refine zga ?_ _ | refine zha ?_ | refine zfa ?_ _)); exact BK219.out) hb)
                   replace HB := zaa.mk (zma (by repeat (first | (with_reducible first | exact HB.out | apply zda | apply zba | apply zca | refine zea ?_ GE212.out | refine zea ?_ GE219.out) | exact HB.out)) hb)
                   (try clear hb)
                   (try clear hb2)
                   (try clear hk)
                   (try clear hi)
                   (try clear ho0)
                   obtain ⟨Ao27, co27, eo27⟩ := Kd.zfd HO225.out
                   (first | subst eo27 | (injection eo27 with f1_ f2_ f3_; have f4_ := f1_.symm; have f5_ := f3_.symm; clear f1_ f2_ f3_; subst f4_; subst f5_))
                   refine hK.out _ _ ⟨(zla BK219.out 0).trans rfl, (zla BK219.out 1).trans rfl, (zla BK219.out 2).trans rfl, ((HB.out.cell (World.block_lt_of_cell? w _ hw222_0)).trans hw222_0), ((HB.out.cell (World.block_lt_of_cell? w _ hw222_1)).trans hw222_1)⟩ (fun hHeld => ?_)
                   clear hK K
                   refine norm_ (a' := ?_) ?_ ?_
                   rotate_left
                   · show Act.put _ (some 47) _ = _
                     simp only [Act.put, List.setIfInBounds_toArray, List.set_cons_zero, List.set_cons_succ, zpb, zzb]
                     rfl
                   refine one_ (i := 8) (N := some 48) #[true, true, true, true, true, true, true, true, true, false, false] rfl rfl (one_of HT_.out (by kernel_rfl)) (by decide) (fun K hK => ?_)
                   refine value_ (w1 := ?_) (v := ?_) (by rfl) rfl ?_ ?_
                   rotate_left 2
                   · go_simp
                     constructor
                     · rfl
                     · rfl
                   refine hK.out _ _ ⟨(zla (zfa BK219.out _) 0).trans rfl, (zla (zfa BK219.out _) 1).trans rfl, (zla (zfa BK219.out _) 2).trans rfl, (World.cell?_alloc_lt _ _ _ (World.block_lt_of_cell? _ _ (((HB.out.cell (World.block_lt_of_cell? w _ hw222_0)).trans hw222_0)))).trans (((HB.out.cell (World.block_lt_of_cell? w _ hw222_0)).trans hw222_0)), (World.cell?_alloc_lt _ _ _ (World.block_lt_of_cell? _ _ (((HB.out.cell (World.block_lt_of_cell? w _ hw222_1)).trans hw222_1)))).trans (((HB.out.cell (World.block_lt_of_cell? w _ hw222_1)).trans hw222_1))⟩ (fun hHeld => ?_)
                   clear hK K
                   refine norm_ (a' := ?_) ?_ ?_
                   rotate_left
                   · show Act.put _ (some 48) _ = _
                     simp only [Act.put, List.setIfInBounds_toArray, List.set_cons_zero, List.set_cons_succ, zpb, zzb]
                     rfl
                   refine one_ (i := 9) (N := some 49) #[true, true, true, true, true, true, true, true, true, true, false] rfl rfl (one_of HT_.out (by kernel_rfl)) (by decide) (fun K hK => ?_)
                   refine Kd.S_append_step (Kd.slice 3 (Kd.int .i64)) (w0 := w) w.heap.size (by rfl) (.tmp 40) (.tmp 48) 78 79 (.slice none 0 0) 24 rfl Tryz.underlying78 info79 rfl (by decide) (by omega) u9 x9_1 t223 [.slice Ao27 t223.length co27] (fun _ => True) (fun k_ => some k_ = (.slice Ao27 t223.length co27 : Value).ownBlock) rfl rfl ?aP (fun k_ hk_ => ((Kd.zsd (ok' := fun k_ => ((fun _ => True)) k_ ∧ some k_ ≠ (u9 : Value).ownBlock) (Kd.zfc (HO225.out) (Kd.S_typed HO_9.out) (by decide)) (fun k_ hk => ⟨trivial, hk.2⟩))).1 k_ hk_.symm) ?aF ?aO ?aB ?aS ?aL ?_
                   (case aP => exact Kd.M_row (Kd.zsd (Kd.R_tight rfl (Kd.zsd (ok' := fun k_ => ((fun _ => True)) k_ ∧ some k_ ≠ (u9 : Value).ownBlock) (Kd.zfc (HO225.out) (Kd.S_typed HO_9.out) (by decide)) (fun k_ hk => ⟨trivial, hk.2⟩))) (fun _ h_ => h_)))
                   (case aB => exact (by repeat (first | (with_reducible first | exact HB.out | apply zda | apply zba | apply zca | refine zea ?_ GE212.out | refine zea ?_ GE219.out) | exact HB.out)))
                   (case aF => exact (fun _ _ => trivial))
                   (case aO => exact (by (with_reducible repeat (first | apply Kd.S_alloc | apply Kd.S_drewN | apply Kd.S_drew)); exact Kd.S_mono HO_9.out (fun k_ hk => ⟨trivial, fun e_ => hk.2 e_⟩)))
                   (case aS => exact (zja (by repeat (first | (with_reducible first | exact HB.out | apply zda | apply zba | apply zca | refine zea ?_ GE212.out | refine zea ?_ GE219.out) | exact HB.out))))
                   (case aL => have := LMc23.out; omega)
                   intro v227 w26 ho hb hg hat
                   rw [← Ny226.out] at ho
                   replace HO_220002 := zaa.mk (Kd.V_afterv (ok := (fun k_ => some k_ ≠ (.slice Ao27 t223.length co27 : Value).ownBlock ∧ k_ ≠ gb212 ∧ k_ ≠ gb219)) (by (with_reducible repeat (first | apply Kd.zza | apply Kd.zya | apply Kd.zib)); exact Kd.zcc HO_220002.out (fun _ hk => ⟨⟨hk.2, ⟨hk.1.2.1, hk.1.2.2⟩⟩, hk.1.1⟩)) hg hat)
                   replace BK212 := zaa.mk (blk_grown (g := gb212) (o := .cells #[.int .i64 a0_0, .int .i64 a0_1, .slice (some ad221) l0_2.length c0_2] 40 (0, 0)) (by (with_reducible repeat (first | refine zga ?_ _ | refine zha ?_ | refine zfa ?_ _)); exact BK212.out) hg (Kd.S_ne HO_9.out BK212.out (by decide)))
                   replace BK219 := zaa.mk (blk_grown (g := gb219) (o := .cells #[.int .i64 t213, .int .i64 t214, .slice Ao14 t215.length co14] 72 (0, 0)) (by (with_reducible repeat (first | refine zga ?_ _ | refine zha ?_ | refine zfa ?_ _)); exact BK219.out) hg (Kd.S_ne HO_9.out BK219.out (by decide)))
                   replace HB := zaa.mk (hb)
                   have HO228 := zaa.mk (ho)
                   clear HO_9
                   clear HO225
                   clear ho hb hg hat
                   refine hK.out _ _ ⟨(zla BK219.out 0).trans rfl, (zla BK219.out 1).trans rfl, (zla BK219.out 2).trans rfl, ((HB.out.cell (World.block_lt_of_cell? w _ hw222_0)).trans hw222_0), ((HB.out.cell (World.block_lt_of_cell? w _ hw222_1)).trans hw222_1)⟩ (fun hHeld => ?_)
                   clear hK K
                   refine norm_ (a' := ?_) ?_ ?_
                   rotate_left
                   · show Act.put _ (some 49) _ = _
                     simp only [Act.put, List.setIfInBounds_toArray, List.set_cons_zero, List.set_cons_succ, zpb, zzb]
                     rfl
                   refine zxc (i := 10) (N := some 9) (v := ?_) (a' := ?_) #[true, true, true, true, true, true, true, true, true, true, true] rfl rfl (zyb HT_.out (by kernel_rfl)) (fun _ _ _ h => h) (Or.inl ⟨by rfl, ?_⟩) ?_ ?_
                   rotate_left
                   · intro w'
                     go_simp
                     with_reducible rfl
                   rotate_left
                   · simp only [Act.put, List.setIfInBounds_toArray, List.set_cons_zero, List.set_cons_succ, zpb, zzb]
                     rfl
                   refine done_ (done_of HT_.out (by kernel_rfl)) ?_
                   try go_wp2
                   go_roundg k1
                   case measure => have := HK1.out; omega
                   case rel => exact ⟨(y226), (wrap64 (x35_1 + 1)), (by first | rfl | (simp; done) | (simp [*]; done)), H', ⟨by have := HK1.out; omega⟩, ⟨by (with_reducible repeat (first | apply Kd.S_alloc | apply Kd.S_drewN | apply Kd.S_drew)); exact HO228.out⟩, ⟨by (with_reducible repeat (first | apply Kd.zza | apply Kd.zya | apply Kd.zib)); exact Kd.zcc HO_220002.out (fun _ hk => ⟨hk.2, ⟨hk.1.2.1, hk.1.2.2⟩⟩)⟩, ⟨by (with_reducible repeat (first | refine zga ?_ _ | refine zha ?_ | refine zfa ?_ _)); exact BK212.out⟩, ⟨by (with_reducible repeat (first | refine zga ?_ _ | refine zha ?_ | refine zfa ?_ _)); exact BK219.out⟩, ⟨by repeat (first | (with_reducible first | exact HB.out | apply zda | apply zba | apply zca | refine zea ?_ GE212.out | refine zea ?_ GE219.out) | exact HB.out)⟩⟩
                 · rw [if_neg c23] at H
                   exact absurd H (by simp)
               · rw [if_neg c21] at H
                 exact absurd H (by simp)
             · rw [if_neg c20] at H
               exact absurd H (by simp)
           · rw [if_neg c19] at H
             exact absurd H (by simp)
         · rw [if_neg c18] at H
           have c18b0 : decide (x35_1 < (l0_2.length : Int)) = false := decide_eq_false c18
           clear c18
           replace H := Option.bind_eq_some_iff.mp H
           obtain ⟨t229, A280, H⟩ := H
           replace H : (some (t229, 0)) = some (r1, r2) := H
           have A28 := zaa.mk A280
           clear A280
           simp only [Option.some.injEq, Prod.mk.injEq] at H
           obtain ⟨rfl, rfl⟩ := H
           have hnb29 := NB219_212.out
           have hnc29 := NB212_219.out
           have hcz30_0 : wr.cell? ⟨gb219, 0, none⟩ = some (.int .i64 t213) := (zla BK219.out 0).trans rfl
           have hcz30_1 : wr.cell? ⟨gb219, 1, none⟩ = some (.int .i64 t214) := (zla BK219.out 1).trans rfl
           have hcz30_2 : wr.cell? ⟨gb219, 2, none⟩ = some (.slice Ao14 t215.length co14) := (zla BK219.out 2).trans rfl
           have hfz30_0 := zka BK219.out 0
           have hfz30_1 := zka BK219.out 1
           have hfz30_2 := zka BK219.out 2
           obtain ⟨Ao31, co31, eo31⟩ := Kd.S_slice HO_9.out
           subst eo31
           go_wp2_with (first | ((with_reducible refine zxa (f := 23) rfl ?_); refine zhd (some 53) rfl rfl Tryz.func23 (by kernel_rfl) rfl #[.agg #[.int .i64 t213, .int .i64 t214, .slice Ao14 t215.length co14], .slice Ao31 x9_1.length co31] rfl (by (try simp only [List.map_toArray, List.map_cons, List.map_nil]); first | done | rfl | (simp only [List.length_drop, List.length_take]; rfl)) ?_; (with_reducible refine (zdd.calls k1 t213 t214 _ _ t215 _ _ x9_1 t229 _ ?side1 ?side2 ?side3 ?side4 A28.out).mono ?_); (case side1 => repeat (first | exact (Kd.zwd HO_220002.out).2.2 | (with_reducible refine Kd.zrb ?_ _) | (with_reducible refine Kd.zqb ?_ _) | (with_reducible refine Kd.zmc ?_))); (case side2 => exact (Kd.zwd HO_220002.out).2.1); (case side3 => repeat (first | exact (Kd.S_reads' HO_9.out).2.2 | (with_reducible refine Kd.zrb ?_ _) | (with_reducible refine Kd.zqb ?_ _) | (with_reducible refine Kd.zmc ?_))); (case side4 => exact (Kd.S_reads' HO_9.out).2.1); rintro e w32 ⟨v230, rfl, ho0, hb⟩; refine ⟨_, rfl, ?_⟩; replace HO_9 := zaa.mk (Kd.S_below (by (with_reducible repeat (first | apply Kd.S_alloc | apply Kd.S_drewN | apply Kd.S_drew)); exact HO_9.out) hb); replace HO_220002 := zaa.mk (Kd.V_elder' (by (with_reducible repeat (first | apply Kd.zza | apply Kd.zya | apply Kd.zib)); exact HO_220002.out) (Kd.zxd ho0) hb); have HO231 := zaa.mk (Kd.znd ho0 (zja (by repeat (first | (with_reducible first | exact HB.out | apply zda | apply zba | apply zca | refine zea ?_ GE212.out | refine zea ?_ GE219.out) | exact HB.out)))); replace BK212 := zaa.mk (zna (g := gb212) (o := .cells #[.int .i64 a0_0, .int .i64 a0_1, .slice A0_2 l0_2.length c0_2] 40 (0, 0)) (by (with_reducible repeat (first | refine zga ?_ _ | refine zha ?_ | refine zfa ?_ _)); exact BK212.out) hb); replace BK219 := zaa.mk (zna (g := gb219) (o := .cells #[.int .i64 t213, .int .i64 t214, .slice Ao14 t215.length co14] 72 (0, 0)) (by (with_reducible repeat (first | refine zga ?_ _ | refine zha ?_ | refine zfa ?_ _)); exact BK219.out) hb); replace HB := zaa.mk (zma (by repeat (first | (with_reducible first | exact HB.out | apply zda | apply zba | apply zca | refine zea ?_ GE212.out | refine zea ?_ GE219.out) | exact HB.out)) hb); (try clear hb); (try clear hb2); (try clear hk); (try clear hi); (try clear ho0)))
           go_ret2
           exact ⟨_, by first | rfl | (simp [zwa, zva] <;> rfl) | (simp [*, zwa, zva] <;> rfl), by (with_reducible repeat (first | apply Kd.zqa | apply Kd.zpa | apply Kd.zsa)); exact HO231.out, by repeat (first | (with_reducible first | exact HB.out | apply zda | apply zba | apply zca | refine zea ?_ GE212.out | refine zea ?_ GE219.out) | exact HB.out)⟩
   · rw [if_neg c5] at H
     exact absurd H (by simp)
 · rw [if_neg c4] at H
   exact absurd H (by simp)
end Go.Proofs.YtoacbkoenkiahaaGreat.PTopGluePlate
end
section
namespace Go.Proofs.YtoacbkoenkiahaaGreat.PTopGluePlate
open Go.RowKit Go.Proofs.YtoacbkoenkiahaaGreatW.PrintWords Go.Proofs.YtoacbkoenkiahaaGreatW.PrintLast Go.Proofs.YtoacbkoenkiahaaGreatW.PrintMore
attribute [local go_sem] znb zlb zhc zgc zeb zdb zmb zkb
set_option linter.unusedVariables false
set_option linter.unusedSimpArgs false
def print_isSpan.f (a0_0 : Int) (a0_1 : Int) (a1 : Int) (a2 : Int) : Option (Bool) := (zxb.f a1 a2 (([a0_0, a0_1] : List Int))).bind fun t236 => (if t236 = true then (some (decide (a0_0 ≤ a0_1))) else (none))
set_option maxHeartbeats 8000000 in
set_option maxRecDepth 100000 in
theorem print_isSpan.calls (a0_0 : Int) (a0_1 : Int) (a1 : Int) (a2 : Int) (r : Bool) (w : World) (h : print_isSpan.f a0_0 a0_1 a1 a2 = some r) :
 Calls Tryz.prog 42 #[.agg #[.int .i64 a0_0, .int .i64 a0_1], .int .i64 a1, .int .i64 a2] w fun e w' => e = .returned (.bool r) ∧ Below w.heap.size w w' := by
 have hu51 := Tryz.underlying51
 have HB := zaa.mk (Below.refl w.heap.size w)
 have H : ((zxb.f a1 a2 (([a0_0, a0_1] : List Int))).bind fun t236 => (if t236 = true then (some (decide (a0_0 ≤ a0_1))) else (none))) = some r := h
 clear h
 obtain ⟨y233, hy233⟩ : ∃ y_ : List Int, y_ = (([a0_0, a0_1] : List Int)) := ⟨_, rfl⟩
 replace H : ((zxb.f a1 a2 y233).bind fun t236 => (if t236 = true then (some (decide (a0_0 ≤ a0_1))) else (none))) = some r := by first | (rw [hy233]; with_reducible exact H) | (have H2_ := (Option.bind_some _ _).symm.trans H; rw [hy233]; with_reducible exact H2_) | (have H2_ := (Option.bind_some _ _).symm.trans H; with_reducible exact H2_) | with_reducible exact H | (rw [hy233]; exact H) | exact H
 have Ny233 := zaa.mk hy233
 clear hy233
 replace H := Option.bind_eq_some_iff.mp H
 obtain ⟨t236, A40, H⟩ := H
 replace H : (if t236 = true then (some (decide (a0_0 ≤ a0_1))) else (none)) = some r := H
 have A4 := zaa.mk A40
 clear A40
 by_cases c5 : t236 = true
 · subst c5
   have H1 : (some (decide (a0_0 ≤ a0_1))) = some r := by rw [if_pos rfl] at H; exact H
   clear H
   have H := H1
   clear H1
   obtain rfl := Option.some.inj H
   go_enter Tryz.func42, Tryz.ntmps42
   go_wp2_with (first | ((with_reducible refine zbb (N := 3) rfl ?_); refine zob ?hg (N := 3) ?hd (cs := #[.int .i64 a0_0, .int .i64 a0_1]) (t := 51) ?hr ?_; (case hd => rfl); (case hg => rfl); (case hr => first | (go_simp; done) | (go_simp; rfl)); intro gb232 hg w6 hbox hb; have BK232 := zaa.mk (hbox); have GW232 := zaa.mk ((by rw [hg]; exact (zja (by repeat (first | (with_reducible first | exact HB.out | apply zda | apply zba | apply zca) | exact HB.out))) : w.heap.size ≤ gb232)); have GE232 := zaa.mk ((by rw [hg]; exact (zja (by repeat (first | (with_reducible first | exact HB.out | apply zda | apply zba | apply zca) | exact HB.out))) : w.heap.size ≤ gb232)); replace HB := zaa.mk (zma (by repeat (first | (with_reducible first | exact HB.out | apply zda | apply zba | apply zca) | exact HB.out)) hb); clear hb hbox hg; have hcz7_0 : w6.cell? ⟨gb232, 0, none⟩ = some (.int .i64 a0_0) := (zla BK232.out 0).trans rfl; have hcz7_1 : w6.cell? ⟨gb232, 1, none⟩ = some (.int .i64 a0_1) := (zla BK232.out 1).trans rfl; have hfz7_0 := zka BK232.out 0; have hfz7_1 := zka BK232.out 1) | ((with_reducible refine zbb (N := 13) rfl ?_); refine Kd.R_lit (Kd.int .i64) _ 3 ?hg (N := 13) ?hd (xs := ([a0_0, a0_1] : List Int)) (inner := [.int .i64 a0_0, .int .i64 a0_1]) (ok := fun _ => True) (okp := fun _ => True) ?hr ?hp (fun _ hk => hk) trivial (Below.refl _ _) (Nat.le_refl _) (by simp) ?_; (case hd => rfl); (case hg => rfl); (case hr => first | (go_simp; done) | (go_simp; rfl)); (case hp => exact (Reps.one (show Kd.M (Kd.int .i64) _ _ _ a0_0 [.int .i64 a0_0] from rfl) (Reps.one (show Kd.M (Kd.int .i64) _ _ _ a0_1 [.int .i64 a0_1] from rfl) (Reps.none _ _)))); intro v234 w8 ho9 hb hg_ hnew_; clear hg_ hnew_; (first | rw [← Ny233.out] at ho9 | (simp only [Int.reduceToNat] at ho9; rw [← Ny233.out] at ho9)); have HO235 := zaa.mk (Kd.znd ho9 (zja (by repeat (first | (with_reducible first | exact HB.out | apply zda | apply zba | apply zca | refine zea ?_ GE232.out) | exact HB.out)))); replace BK232 := zaa.mk (zna (g := gb232) (o := .cells #[.int .i64 a0_0, .int .i64 a0_1] 51 (0, 0)) (by (with_reducible repeat (first | refine zga ?_ _ | refine zha ?_ | refine zfa ?_ _)); exact BK232.out) hb); replace HB := zaa.mk (zma (by repeat (first | (with_reducible first | exact HB.out | apply zda | apply zba | apply zca | refine zea ?_ GE232.out) | exact HB.out)) hb); clear hb ho9; obtain ⟨Ao10, co10, eo10⟩ := Kd.zfd HO235.out; subst eo10) | ((with_reducible refine zxa (f := 25) rfl ?_); refine zhd (some 14) rfl rfl Tryz.func25 (by kernel_rfl) rfl #[.int .i64 a1, .int .i64 a2, .slice Ao10 y233.length co10] rfl (by (try simp only [List.map_toArray, List.map_cons, List.map_nil]); first | done | rfl | (simp only [List.length_drop, List.length_take]; rfl)) ?_; (with_reducible refine (zxb.calls a1 a2 _ _ y233 true _ ?side1 ?side2 A4.out).mono ?_); (case side1 => repeat (first | exact (Kd.zgb HO235.out).2.2 | (with_reducible refine Kd.zrb ?_ _) | (with_reducible refine Kd.zqb ?_ _) | (with_reducible refine Kd.zmc ?_))); (case side2 => exact (Kd.zgb HO235.out).2.1); rintro e w11 ⟨rfl, hb⟩; refine ⟨_, rfl, ?_⟩; replace HO235 := zaa.mk (Kd.zcb (by (with_reducible repeat (first | apply Kd.zqa | apply Kd.zpa | apply Kd.zsa)); exact HO235.out) hb); replace BK232 := zaa.mk (zna (g := gb232) (o := .cells #[.int .i64 a0_0, .int .i64 a0_1] 51 (0, 0)) (by (with_reducible repeat (first | refine zga ?_ _ | refine zha ?_ | refine zfa ?_ _)); exact BK232.out) hb); replace HB := zaa.mk (zma (by repeat (first | (with_reducible first | exact HB.out | apply zda | apply zba | apply zca | refine zea ?_ GE232.out) | exact HB.out)) hb); (try clear hb); (try clear hb2); (try clear hk); (try clear hi); have hcz12_0 : w11.cell? ⟨gb232, 0, none⟩ = some (.int .i64 a0_0) := (zla BK232.out 0).trans rfl; have hcz12_1 : w11.cell? ⟨gb232, 1, none⟩ = some (.int .i64 a0_1) := (zla BK232.out 1).trans rfl; have hfz12_0 := zka BK232.out 0; have hfz12_1 := zka BK232.out 1))
   go_ret
   exact ⟨by first | rfl | (simp [zwa, zva] <;> rfl) | (simp [*, zwa, zva] <;> rfl), by repeat (first | (with_reducible first | exact HB.out | apply zda | apply zba | apply zca | refine zea ?_ GE232.out) | exact HB.out)⟩
 · replace c5 := Bool.eq_false_iff.mpr c5
   subst c5
   have H1 : (none) = some r := by rw [if_neg (show ¬ (false = true) by decide)] at H; exact H
   clear H
   have H := H1
   clear H1
   exact absurd H (by simp)
end Go.Proofs.YtoacbkoenkiahaaGreat.PTopGluePlate
end
section
namespace Go.Proofs.YtoacbkoenkiahaaGreat.PTopGluePlate
open Go.RowKit Go.Proofs.YtoacbkoenkiahaaGreatW.PrintWords Go.Proofs.YtoacbkoenkiahaaGreatW.PrintLast Go.Proofs.YtoacbkoenkiahaaGreatW.PrintMore
attribute [local go_sem] znb zlb zhc zgc zeb zdb zmb zkb
set_option linter.unusedVariables false
set_option linter.unusedSimpArgs false
def print_openRooms_1.f (a0_0 : Int) (a0_1 : Int) (a0_2 : Int) (a0_3 : Int) : Option (Bool) := (print_isSpan.f a0_0 a0_1 (-2) 2).bind fun t238 => (if t238 = true then ((print_isSpan.f a0_2 a0_3 (-2) 2).bind fun t239 => (some (!t239))) else (none))
set_option maxHeartbeats 8000000 in
set_option maxRecDepth 100000 in
theorem print_openRooms_1.calls (a0_0 : Int) (a0_1 : Int) (a0_2 : Int) (a0_3 : Int) (r : Bool) (w : World) (h : print_openRooms_1.f a0_0 a0_1 a0_2 a0_3 = some r) :
 Calls Tryz.prog 41 #[.agg #[.int .i64 a0_0, .int .i64 a0_1, .int .i64 a0_2, .int .i64 a0_3]] w fun e w' => e = .returned (.bool r) ∧ Below w.heap.size w w' := by
 have hu53 := Tryz.underlying53
 have hu51 := Tryz.underlying51
 have HB := zaa.mk (Below.refl w.heap.size w)
 have H : ((print_isSpan.f a0_0 a0_1 (-2) 2).bind fun t238 => (if t238 = true then ((print_isSpan.f a0_2 a0_3 (-2) 2).bind fun t239 => (some (!t239))) else (none))) = some r := h
 clear h
 replace H := Option.bind_eq_some_iff.mp H
 obtain ⟨t238, A20, H⟩ := H
 replace H : (if t238 = true then ((print_isSpan.f a0_2 a0_3 (-2) 2).bind fun t239 => (some (!t239))) else (none)) = some r := H
 have A2 := zaa.mk A20
 clear A20
 by_cases c3 : t238 = true
 · subst c3
   have H1 : ((print_isSpan.f a0_2 a0_3 (-2) 2).bind fun t239 => (some (!t239))) = some r := by rw [if_pos rfl] at H; exact H
   clear H
   have H := H1
   clear H1
   replace H := Option.bind_eq_some_iff.mp H
   obtain ⟨t239, A40, H⟩ := H
   replace H : (some (!t239)) = some r := H
   have A4 := zaa.mk A40
   clear A40
   obtain rfl := Option.some.inj H
   go_enter Tryz.func41, Tryz.ntmps41
   go_wp2_with (first | ((with_reducible refine zbb (N := 1) rfl ?_); refine zob ?hg (N := 1) ?hd (cs := #[.int .i64 a0_0, .int .i64 a0_1, .int .i64 a0_2, .int .i64 a0_3]) (t := 53) ?hr ?_; (case hd => rfl); (case hg => rfl); (case hr => first | (go_simp; done) | (go_simp; rfl)); intro gb237 hg w5 hbox hb; have BK237 := zaa.mk (hbox); have GW237 := zaa.mk ((by rw [hg]; exact (zja (by repeat (first | (with_reducible first | exact HB.out | apply zda | apply zba | apply zca) | exact HB.out))) : w.heap.size ≤ gb237)); have GE237 := zaa.mk ((by rw [hg]; exact (zja (by repeat (first | (with_reducible first | exact HB.out | apply zda | apply zba | apply zca) | exact HB.out))) : w.heap.size ≤ gb237)); replace HB := zaa.mk (zma (by repeat (first | (with_reducible first | exact HB.out | apply zda | apply zba | apply zca) | exact HB.out)) hb); clear hb hbox hg; have hcz6_0 : w5.cell? ⟨gb237, 0, none⟩ = some (.int .i64 a0_0) := (zla BK237.out 0).trans rfl; have hcz6_1 : w5.cell? ⟨gb237, 1, none⟩ = some (.int .i64 a0_1) := (zla BK237.out 1).trans rfl; have hcz6_2 : w5.cell? ⟨gb237, 2, none⟩ = some (.int .i64 a0_2) := (zla BK237.out 2).trans rfl; have hcz6_3 : w5.cell? ⟨gb237, 3, none⟩ = some (.int .i64 a0_3) := (zla BK237.out 3).trans rfl; have hfz6_0 := zka BK237.out 0; have hfz6_1 := zka BK237.out 1; have hfz6_2 := zka BK237.out 2; have hfz6_3 := zka BK237.out 3) | ((with_reducible refine zxa (f := 42) rfl ?_); refine zhd (some 5) rfl rfl Tryz.func42 (by kernel_rfl) rfl #[.agg #[.int .i64 a0_0, .int .i64 a0_1], .int .i64 (-2), .int .i64 2] rfl (by (try simp only [List.map_toArray, List.map_cons, List.map_nil]); first | done | rfl | (simp only [List.length_drop, List.length_take]; rfl)) ?_; (with_reducible refine (print_isSpan.calls a0_0 a0_1 (-2) 2 true _ A2.out).mono ?_); rintro e w7 ⟨rfl, hb⟩; refine ⟨_, rfl, ?_⟩; replace BK237 := zaa.mk (zna (g := gb237) (o := .cells #[.int .i64 a0_0, .int .i64 a0_1, .int .i64 a0_2, .int .i64 a0_3] 53 (0, 0)) (by (with_reducible repeat (first | refine zga ?_ _ | refine zha ?_ | refine zfa ?_ _)); exact BK237.out) hb); replace HB := zaa.mk (zma (by repeat (first | (with_reducible first | exact HB.out | apply zda | apply zba | apply zca | refine zea ?_ GE237.out) | exact HB.out)) hb); (try clear hb); (try clear hb2); (try clear hk); (try clear hi); have hcz8_0 : w7.cell? ⟨gb237, 0, none⟩ = some (.int .i64 a0_0) := (zla BK237.out 0).trans rfl; have hcz8_1 : w7.cell? ⟨gb237, 1, none⟩ = some (.int .i64 a0_1) := (zla BK237.out 1).trans rfl; have hcz8_2 : w7.cell? ⟨gb237, 2, none⟩ = some (.int .i64 a0_2) := (zla BK237.out 2).trans rfl; have hcz8_3 : w7.cell? ⟨gb237, 3, none⟩ = some (.int .i64 a0_3) := (zla BK237.out 3).trans rfl; have hfz8_0 := zka BK237.out 0; have hfz8_1 := zka BK237.out 1; have hfz8_2 := zka BK237.out 2; have hfz8_3 := zka BK237.out 3) | (go_at_call 42; (with_reducible refine (print_isSpan.calls a0_2 a0_3 (-2) 2 t239 _ A4.out).mono ?_); rintro e w9 ⟨rfl, hb⟩; replace BK237 := zaa.mk (zna (g := gb237) (o := .cells #[.int .i64 a0_0, .int .i64 a0_1, .int .i64 a0_2, .int .i64 a0_3] 53 (0, 0)) (by (with_reducible repeat (first | refine zga ?_ _ | refine zha ?_ | refine zfa ?_ _)); exact BK237.out) hb); replace HB := zaa.mk (zma (by repeat (first | (with_reducible first | exact HB.out | apply zda | apply zba | apply zca | refine zea ?_ GE237.out) | exact HB.out)) hb); (try clear hb); (try clear hb2); (try clear hk); (try clear hi)))
   go_ret
   exact ⟨by first | rfl | (simp [zwa, zva] <;> rfl) | (simp [*, zwa, zva] <;> rfl), by repeat (first | (with_reducible first | exact HB.out | apply zda | apply zba | apply zca | refine zea ?_ GE237.out) | exact HB.out)⟩
 · replace c3 := Bool.eq_false_iff.mpr c3
   subst c3
   have H1 : (none) = some r := by rw [if_neg (show ¬ (false = true) by decide)] at H; exact H
   clear H
   have H := H1
   clear H1
   exact absurd H (by simp)
end Go.Proofs.YtoacbkoenkiahaaGreat.PTopGluePlate
end
section
namespace Go.Proofs.YtoacbkoenkiahaaGreat.PTopGluePlate
open Go.RowKit Go.Proofs.YtoacbkoenkiahaaGreatW.PrintWords Go.Proofs.YtoacbkoenkiahaaGreatW.PrintLast Go.Proofs.YtoacbkoenkiahaaGreatW.PrintMore
attribute [local go_sem] znb zlb zhc zgc zeb zdb zmb zkb
set_option linter.unusedVariables false
set_option linter.unusedSimpArgs false
def Pred_api_PrintRoom_65 (P : Program) (g : Nat) (lb : Array Value) (l : List S53) (p : S53 → Option Bool) (w : World) : Prop :=
 ∀ (W : World) (x : S53), x ∈ l → Below w.heap.size w W → ∀ b, p x = some b → Calls P g (#[.agg #[.int .i64 x.f0.f0, .int .i64 x.f0.f1, .int .i64 x.f1.f0, .int .i64 x.f1.f1]] ++ lb) W fun e w' => e = .returned (.bool b) ∧ Below W.heap.size W w'
theorem rd_nat_api_PrintRoom (l : List S53) (k : Nat) (h : k < l.length) : rd_T53 l (k : Int) = l[k] := by
 simp [rd_T53, List.getD_eq_getElem?_getD, List.getElem?_eq_getElem h]
set_option maxHeartbeats 2000000 in
set_option maxRecDepth 100000 in
theorem slices_IndexFunc_api_PrintRoom.calls (g : Nat) (lb : Array Value) (p : S53 → Option Bool) (A0 : Option Addr) (c0 : Nat) (l0 : List S53) (r : Int) (w : World) (hr0 : Kd.C k53 w A0 l0.length l0) (hc0 : l0.length ≤ c0)
    (eg : ∀ args w, (callFunc g args).run Tryz.prog w = .ok (.enter g args) w) (hp : Pred_api_PrintRoom_65 Tryz.prog g lb l0 p w) (h : idxO p l0 0 = some r) :
    Calls Tryz.prog 65 #[.slice A0 l0.length c0, .func (.func g) #[] lb] w fun e w' => e = .returned (.int .i64 r) ∧ Below w.heap.size w w' := by
  have hu53 := Tryz.underlying53
  have HR0 := zaa.mk hr0
  have HB := zaa.mk (Below.refl w.heap.size w)
  have HP := zaa.mk hp
  have HH := zaa.mk h
  have hlen : l0.length ≤ 9223372036854775807 := hr0.2.1
  clear hr0 hc0 hp h
  go_enter Tryz.func65, Tryz.ntmps65
  go_wp2
  go_loopw [8] (fun v8 wr => ∃ kk : Nat, kk ≤ l0.length ∧ v8 = .int .i64 kk ∧ zaa (idxO p (l0.drop kk) kk = some r) ∧ zaa (Below w.heap.size w wr)) (fun v8 _ => l0.length - (intOf v8).toNat)
  case atStart => exact ⟨0, Nat.zero_le _, rfl, ⟨by simpa using HH.out⟩, HB⟩
  case round =>
    obtain ⟨kk, hkk, rfl, HI, HW⟩ := hrel
    by_cases hlt : kk < l0.length
    · have hlz : (kk : Int) < (l0.length : Int) := by omega
      obtain ⟨ad, e0, hx0, hx1, hx2, hx3⟩ := at_T53 (Kd.zkc HR0.out HW.out) (kk : Int) (by omega) hlz
      cases e0
      rw [rd_nat_api_PrintRoom l0 kk hlt] at hx0 hx1 hx2 hx3
      simp only [Int.toNat_natCast] at hx0 hx1 hx2 hx3
      have hcall := HP.out wr l0[kk] (List.getElem_mem hlt) HW.out
      have hd := HI.out
      rw [idxO_drop p l0 kk hlt] at hd
      have HD := zaa.mk hd
      clear hd HI
      generalize l0[kk] = y at hx0 hx1 hx2 hx3 hcall HD
      have HC := zaa.mk hcall
      clear hcall
      cases hq : p y with
      | none => exact absurd HD.out (by rw [hq]; simp)
      | some b =>
        have HC2 := zaa.mk (HC.out b hq)
        clear HC
        cases b with
        | true =>
          go_wp2_with (go_at_fn g; refine HC2.out.mono ?_; rintro e w' ⟨rfl, hb'⟩; have HB' := zaa.mk hb'; clear hb')
          go_ret
          refine ⟨?_, zma HW.out HB'.out⟩
          have h1 := HD.out
          rw [hq] at h1
          have h2 : (kk : Int) = r := by simpa using h1
          rw [← h2]; rfl
        | false =>
          have HI : zaa (idxO p (l0.drop (kk + 1)) (kk + 1) = some r) := ⟨by have h1 := HD.out; rw [hq] at h1; simpa using h1⟩
          go_wp2_with (go_at_fn g; refine HC2.out.mono ?_; rintro e w' ⟨rfl, hb'⟩; have HB' := zaa.mk hb'; clear hb')
          go_roundw
          case rel => exact ⟨kk + 1, by omega, by go_num, HI, ⟨zma HW.out HB'.out⟩⟩
          case measure => simp [intOf]; omega
    · obtain rfl : kk = l0.length := by omega
      go_wp2
      go_ret
      have h1 := HI.out
      rw [List.drop_length] at h1
      exact ⟨by have h2 : (-1 : Int) = r := (by simpa [idxO] using h1); rw [← h2]; rfl, HW.out⟩
end Go.Proofs.YtoacbkoenkiahaaGreat.PTopGluePlate
end
section
namespace Go.Proofs.YtoacbkoenkiahaaGreat.PTopGluePlate
open Go.RowKit Go.Proofs.YtoacbkoenkiahaaGreatW.PrintWords Go.Proofs.YtoacbkoenkiahaaGreatW.PrintLast Go.Proofs.YtoacbkoenkiahaaGreatW.PrintMore
attribute [local go_sem] znb zlb zhc zgc zeb zdb zmb zkb
set_option linter.unusedVariables false
set_option linter.unusedSimpArgs false
def Pred_api_PrintRoom_43 (P : Program) (g : Nat) (lb : Array Value) (l : List S53) (p : S53 → Option Bool) (w : World) : Prop :=
 ∀ (W : World) (x : S53), x ∈ l → Below w.heap.size w W → ∀ b, p x = some b → Calls P g (#[.agg #[.int .i64 x.f0.f0, .int .i64 x.f0.f1, .int .i64 x.f1.f0, .int .i64 x.f1.f1]] ++ lb) W fun e w' => e = .returned (.bool b) ∧ Below W.heap.size W w'
set_option maxHeartbeats 1000000 in
theorem slices_ContainsFunc_api_PrintRoom.calls (g : Nat) (lb : Array Value) (p : S53 → Option Bool) (A0 : Option Addr) (c0 : Nat) (l0 : List S53) (r : Bool) (w : World) (hr0 : Kd.C k53 w A0 l0.length l0) (hc0 : l0.length ≤ c0)
 (eg : ∀ args w, (callFunc g args).run Tryz.prog w = .ok (.enter g args) w) (hp : Pred_api_PrintRoom_43 Tryz.prog g lb l0 p w) (h : containsO p l0 = some r) :
 Calls Tryz.prog 43 #[.slice A0 l0.length c0, .func (.func g) #[] lb] w fun e w' => e = .returned (.bool r) ∧ Below w.heap.size w w' := by
 obtain ⟨x, hx, hxr⟩ := containsO_idx p l0 r h
 have H := zaa.mk (slices_IndexFunc_api_PrintRoom.calls g lb p A0 c0 l0 x w hr0 hc0 eg hp hx)
 have HX := zaa.mk hxr
 clear hr0 hc0 hp h hx hxr
 go_enter Tryz.func43, Tryz.ntmps43
 go_wp2_with (go_at_call 65; refine H.out.mono ?_; rintro e w' ⟨rfl, hb'⟩; have HB' := zaa.mk hb'; clear hb')
 go_ret
 exact ⟨by rw [← HX.out]; rfl, HB'.out⟩
end Go.Proofs.YtoacbkoenkiahaaGreat.PTopGluePlate
end
section
namespace Go.Proofs.YtoacbkoenkiahaaGreat.PTopGluePlate
open Go.RowKit Go.Proofs.YtoacbkoenkiahaaGreatW.PrintWords Go.Proofs.YtoacbkoenkiahaaGreatW.PrintLast Go.Proofs.YtoacbkoenkiahaaGreatW.PrintMore
attribute [local go_sem] znb zlb zhc zgc zeb zdb zmb zkb
set_option linter.unusedVariables false
set_option linter.unusedSimpArgs false
def zmd.f (l0 : List (S53))  : Option Bool := containsO (fun (x : S53) => print_openRooms_1.f x.f0.f0 x.f0.f1 x.f1.f0 x.f1.f1 ) l0
set_option maxHeartbeats 1000000 in
theorem zmd.calls (A0 : Option Addr) (c0 : Nat) (l0 : List (S53))  (r : Bool) (w : World) (hr0 : Kd.C k53 w A0 l0.length l0) (hc0 : l0.length ≤ c0) (h : zmd.f l0  = some r) :
 Calls Tryz.prog 43 #[.slice A0 l0.length c0, .func (.func 41) #[] #[]] w fun e w' => e = .returned (.bool r) ∧ Below w.heap.size w w' := by
 have eg : ∀ args w, (callFunc 41 args).run Tryz.prog w = .ok (.enter 41 args) w := enters_of Tryz.func41 (by kernel_rfl) rfl
 refine slices_ContainsFunc_api_PrintRoom.calls 41 #[] (fun (x : S53) => print_openRooms_1.f x.f0.f0 x.f0.f1 x.f1.f0 x.f1.f1 ) A0 c0 l0 r w hr0 hc0 eg ?_ h
 intro W x hx hW b hb
 refine (print_openRooms_1.calls x.f0.f0 x.f0.f1 x.f1.f0 x.f1.f1 b W  hb).mono ?_
 rintro e w' ⟨rfl, hd⟩; exact ⟨rfl, hd⟩
def print_openRooms.f (k : Nat) (a0_0 : Int) (a0_1 : Int) (l0_2 : List (List Int)) (l1 : List (S53)) : Option (Int × Int × (List (List Int)) × Int) := (zud.f k a0_0 a0_1 l0_2).bind fun bt242 => (if bt242.2.2.2 = 0 then (if (l1.length : Int) = (l0_2.length : Int) then ((zmd.f l1).bind fun t249 => (if t249 = true then (none) else (some (bt242.1, bt242.2.1, bt242.2.2.1, 0)))) else (none)) else (none))
set_option maxHeartbeats 8000000 in
set_option maxRecDepth 100000 in
theorem print_openRooms.calls (k : Nat) (a0_0 : Int) (a0_1 : Int) (P0_2_ : Nat → Prop) (A0_2 : Option Addr) (c0_2 : Nat) (l0_2 : List (List Int)) (A1 : Option Addr) (c1 : Nat) (l1 : List (S53)) (r1 : Int) (r2 : Int) (r3 : List (List Int)) (r4 : Int) (w : World) (hs0_2 : Kd.V (Kd.slice 3 (Kd.int .i64)) 24 w w.heap.size (fun k_ => P0_2_ k_) (.slice A0_2 l0_2.length c0_2) l0_2) (hr1 : Kd.C k53 w A1 l1.length l1) (hc1 : l1.length ≤ c1) (h : print_openRooms.f k a0_0 a0_1 l0_2 l1 = some (r1, r2, r3, r4)) :
 Calls Tryz.prog 24 #[.agg #[.int .i64 a0_0, .int .i64 a0_1, .slice A0_2 l0_2.length c0_2], .slice A1 l1.length c1] w fun e w' => ∃ v2_ : Value, e = .returned (.tuple #[.agg #[.int .i64 r1, .int .i64 r2, v2_], .int .i64 r4]) ∧ Kd.V (Kd.slice 3 (Kd.int .i64)) 24 w' w.heap.size (fun k_ => (P0_2_ k_ ∨ w.heap.size ≤ k_)) v2_ r3 ∧ Below w.heap.size w w' := by
 have hu40 := Tryz.underlying40
 have hu72 := Tryz.underlying72
 have HO0_2 := zaa.mk (show Kd.V (Kd.slice 3 (Kd.int .i64)) 24 w w.heap.size (fun k_ => (P0_2_ k_ ∨ w.heap.size ≤ k_)) (.slice A0_2 l0_2.length c0_2) l0_2 from Kd.zcc hs0_2 (fun k_ hk => .inl hk))
 have HR1 := zaa.mk hr1
 have HC1 := zaa.mk hc1
 clear hr1 hc1
 have HB := zaa.mk (Below.refl w.heap.size w)
 have H : ((zud.f k a0_0 a0_1 l0_2).bind fun bt242 => (if bt242.2.2.2 = 0 then (if (l1.length : Int) = (l0_2.length : Int) then ((zmd.f l1).bind fun t249 => (if t249 = true then (none) else (some (bt242.1, bt242.2.1, bt242.2.2.1, 0)))) else (none)) else (none))) = some (r1, r2, r3, r4) := h
 clear h
 replace H := Option.bind_eq_some_iff.mp H
 obtain ⟨⟨t242, t243, t244, t247⟩, A30, H⟩ := H
 replace H : (if t247 = 0 then (if (l1.length : Int) = (l0_2.length : Int) then ((zmd.f l1).bind fun t249 => (if t249 = true then (none) else (some (t242, t243, t244, 0)))) else (none)) else (none)) = some (r1, r2, r3, r4) := H
 have A3 := zaa.mk A30
 clear A30
 by_cases c4 : t247 = 0
 · rw [if_pos c4] at H
   have c4b0 : (t247 == 0) = true := beq_iff_eq.mpr c4
   have c4b1 : (t247 != 0) = false := bne_eq_false_iff_eq.mpr c4
   clear c4
   by_cases c5 : (l1.length : Int) = (l0_2.length : Int)
   · rw [if_pos c5] at H
     have c5b0 : ((l1.length : Int) == (l0_2.length : Int)) = true := beq_iff_eq.mpr c5
     have c5b1 : ((l1.length : Int) != (l0_2.length : Int)) = false := bne_eq_false_iff_eq.mpr c5
     have c5b2 : (l1.length == l0_2.length) = true := by first | simpa using c5 | (simp at c5 ⊢; omega)
     clear c5
     replace H := Option.bind_eq_some_iff.mp H
     obtain ⟨t249, A60, H⟩ := H
     replace H : (if t249 = true then (none) else (some (t242, t243, t244, 0))) = some (r1, r2, r3, r4) := H
     have A6 := zaa.mk A60
     clear A60
     by_cases c7 : t249 = true
     · subst c7
       have H1 : (none) = some (r1, r2, r3, r4) := by rw [if_pos rfl] at H; exact H
       clear H
       have H := H1
       clear H1
       exact absurd H (by simp)
     · replace c7 := Bool.eq_false_iff.mpr c7
       subst c7
       have H1 : (some (t242, t243, t244, 0)) = some (r1, r2, r3, r4) := by rw [if_neg (show ¬ (false = true) by decide)] at H; exact H
       clear H
       have H := H1
       clear H1
       simp only [Option.some.injEq, Prod.mk.injEq] at H
       obtain ⟨rfl, rfl, rfl, rfl⟩ := H
       go_enter Tryz.func24, Tryz.ntmps24
       go_wp2_with (first | ((with_reducible refine zbb (N := 2) rfl ?_); refine zob ?hg (N := 2) ?hd (cs := #[.int .i64 a0_0, .int .i64 a0_1, .slice A0_2 l0_2.length c0_2]) (t := 40) ?hr ?_; (case hd => rfl); (case hg => rfl); (case hr => first | (go_simp; done) | (go_simp; rfl)); intro gb240 hg w8 hbox hb; replace HO0_2 := zaa.mk (Kd.zqc (Kd.zld (by (with_reducible repeat (first | apply Kd.zza | apply Kd.zya | apply Kd.zib)); exact HO0_2.out) gb240 (Nat.le_of_eq hg.symm)) hb); have BK240 := zaa.mk (hbox); have GW240 := zaa.mk ((by rw [hg]; exact (zja (by repeat (first | (with_reducible first | exact HB.out | apply zda | apply zba | apply zca) | exact HB.out))) : w.heap.size ≤ gb240)); have GE240 := zaa.mk ((by rw [hg]; exact (zja (by repeat (first | (with_reducible first | exact HB.out | apply zda | apply zba | apply zca) | exact HB.out))) : w.heap.size ≤ gb240)); replace HB := zaa.mk (zma (by repeat (first | (with_reducible first | exact HB.out | apply zda | apply zba | apply zca) | exact HB.out)) hb); clear hb hbox hg) | ((with_reducible refine zbb (N := 4) rfl ?_); refine zob ?hg (N := 4) ?hd (cs := #[.int .i64 0, .int .i64 0, .slice none 0 0]) (t := 72) ?hr ?_; (case hd => rfl); (case hg => rfl); (case hr => first | (go_simp; done) | (go_simp; rfl)); intro gb241 hg w9 hbox hb; replace HO0_2 := zaa.mk (Kd.zqc (Kd.zld (by (with_reducible repeat (first | apply Kd.zza | apply Kd.zya | apply Kd.zib)); exact HO0_2.out) gb241 (Nat.le_of_eq hg.symm)) hb); have BK241 := zaa.mk (hbox); have GW241 := zaa.mk ((by rw [hg]; exact (zja (by repeat (first | (with_reducible first | exact HB.out | apply zda | apply zba | apply zca | refine zea ?_ GE240.out) | exact HB.out))) : w.heap.size ≤ gb241)); have GE241 := zaa.mk ((by rw [hg]; exact (zja (by repeat (first | (with_reducible first | exact HB.out | apply zda | apply zba | apply zca | refine zea ?_ GE240.out) | exact HB.out))) : w.heap.size ≤ gb241)); replace HB := zaa.mk (zma (by repeat (first | (with_reducible first | exact HB.out | apply zda | apply zba | apply zca | refine zea ?_ GE240.out) | exact HB.out)) hb); have NB240_241 := zaa.mk ((by rw [hg]; exact Nat.ne_of_lt (zbc (g := gb240) (o := .cells #[.int .i64 a0_0, .int .i64 a0_1, .slice A0_2 l0_2.length c0_2] 40 (0, 0)) (by (with_reducible repeat (first | refine zga ?_ _ | refine zha ?_ | refine zfa ?_ _)); exact BK240.out)) : gb240 ≠ gb241)); have NB241_240 := zaa.mk ((by rw [hg]; exact Nat.ne_of_gt (zbc (g := gb240) (o := .cells #[.int .i64 a0_0, .int .i64 a0_1, .slice A0_2 l0_2.length c0_2] 40 (0, 0)) (by (with_reducible repeat (first | refine zga ?_ _ | refine zha ?_ | refine zfa ?_ _)); exact BK240.out)) : gb241 ≠ gb240)); replace BK240 := zaa.mk (zna (g := gb240) (o := .cells #[.int .i64 a0_0, .int .i64 a0_1, .slice A0_2 l0_2.length c0_2] 40 (0, 0)) (by (with_reducible repeat (first | refine zga ?_ _ | refine zha ?_ | refine zfa ?_ _)); exact BK240.out) hb); clear hb hbox hg; have hnb10 := NB240_241.out; have hnc10 := NB241_240.out; have hcz11_0 : w9.cell? ⟨gb240, 0, none⟩ = some (.int .i64 a0_0) := (zla BK240.out 0).trans rfl; have hcz11_1 : w9.cell? ⟨gb240, 1, none⟩ = some (.int .i64 a0_1) := (zla BK240.out 1).trans rfl; have hcz11_2 : w9.cell? ⟨gb240, 2, none⟩ = some (.slice A0_2 l0_2.length c0_2) := (zla BK240.out 2).trans rfl; have hfz11_0 := zka BK240.out 0; have hfz11_1 := zka BK240.out 1; have hfz11_2 := zka BK240.out 2) | ((with_reducible refine zxa (f := 18) rfl ?_); refine zhd (some 11) rfl rfl Tryz.func18 (by kernel_rfl) rfl #[.agg #[.int .i64 a0_0, .int .i64 a0_1, .slice A0_2 l0_2.length c0_2]] rfl (by (try simp only [List.map_toArray, List.map_cons, List.map_nil]); first | done | rfl | (simp only [List.length_drop, List.length_take]; rfl)) ?_; (with_reducible refine (zud.calls k a0_0 a0_1 (fun k_ => (((P0_2_ k_ ∨ w.heap.size ≤ k_) ∧ k_ ≠ gb240) ∧ k_ ≠ gb241)) _ _ l0_2 t242 t243 t244 t247 _ ?side1 A3.out).mono ?_); (case side1 => exact HO0_2.out); rintro e w12 ⟨v245, rfl, ho0, hb⟩; refine ⟨_, rfl, ?_⟩; replace HO0_2 := zaa.mk (Kd.zqc (by (with_reducible repeat (first | apply Kd.zza | apply Kd.zya | apply Kd.zib)); exact HO0_2.out) hb); have HO246 := zaa.mk (Kd.V_lower (Kd.zcc (ok' := fun k_ => (P0_2_ k_ ∨ w.heap.size ≤ k_) ∧ k_ ≠ gb240 ∧ k_ ≠ gb241) ho0 (fun k_ hk_ => ⟨Or.elim hk_ (fun hs_ => hs_.1.1) (fun hn_ => (.inr (Nat.le_trans (zja (by repeat (first | (with_reducible first | exact HB.out | apply zda | apply zba | apply zca | refine zea ?_ GE240.out | refine zea ?_ GE241.out) | exact HB.out))) hn_))), Or.elim hk_ (fun hs_ => hs_.1.2) (fun hn_ => (Kd.freshB (g := gb240) (o := .cells #[.int .i64 a0_0, .int .i64 a0_1, .slice A0_2 l0_2.length c0_2] 40 (0, 0)) (by (with_reducible repeat (first | refine zga ?_ _ | refine zha ?_ | refine zfa ?_ _)); exact BK240.out) k_ hn_)), Or.elim hk_ (fun hs_ => hs_.2) (fun hn_ => (Kd.freshB (g := gb241) (o := .cells #[.int .i64 0, .int .i64 0, .slice none 0 0] 72 (0, 0)) (by (with_reducible repeat (first | refine zga ?_ _ | refine zha ?_ | refine zfa ?_ _)); exact BK241.out) k_ hn_))⟩)) (zja (by repeat (first | (with_reducible first | exact HB.out | apply zda | apply zba | apply zca | refine zea ?_ GE240.out | refine zea ?_ GE241.out) | exact HB.out)))); replace BK240 := zaa.mk (zna (g := gb240) (o := .cells #[.int .i64 a0_0, .int .i64 a0_1, .slice A0_2 l0_2.length c0_2] 40 (0, 0)) (by (with_reducible repeat (first | refine zga ?_ _ | refine zha ?_ | refine zfa ?_ _)); exact BK240.out) hb); replace BK241 := zaa.mk (zna (g := gb241) (o := .cells #[.int .i64 0, .int .i64 0, .slice none 0 0] 72 (0, 0)) (by (with_reducible repeat (first | refine zga ?_ _ | refine zha ?_ | refine zfa ?_ _)); exact BK241.out) hb); replace HB := zaa.mk (zma (by repeat (first | (with_reducible first | exact HB.out | apply zda | apply zba | apply zca | refine zea ?_ GE240.out | refine zea ?_ GE241.out) | exact HB.out)) hb); (try clear hb); (try clear hb2); (try clear hk); (try clear hi); (try clear ho0)) | ((with_reducible refine zbb (N := 6) rfl ?_); refine zob ?hg (N := 6) ?hd (cs := #[.int .i64 0, .int .i64 0, .slice none 0 0]) (t := 72) ?hr ?_; (case hd => rfl); (case hg => rfl); (case hr => first | (go_simp; done) | (go_simp; rfl)); intro gb248 hg w13 hbox hb; replace HO0_2 := zaa.mk (Kd.zqc (Kd.zld (by (with_reducible repeat (first | apply Kd.zza | apply Kd.zya | apply Kd.zib)); exact HO0_2.out) gb248 (Nat.le_of_eq hg.symm)) hb); replace HO246 := zaa.mk (Kd.zqc (Kd.zld (by (with_reducible repeat (first | apply Kd.zza | apply Kd.zya | apply Kd.zib)); exact HO246.out) gb248 (Nat.le_of_eq hg.symm)) hb); have BK248 := zaa.mk (hbox); have GW248 := zaa.mk ((by rw [hg]; exact (zja (by repeat (first | (with_reducible first | exact HB.out | apply zda | apply zba | apply zca | refine zea ?_ GE240.out | refine zea ?_ GE241.out) | exact HB.out))) : w.heap.size ≤ gb248)); have GE248 := zaa.mk ((by rw [hg]; exact (zja (by repeat (first | (with_reducible first | exact HB.out | apply zda | apply zba | apply zca | refine zea ?_ GE240.out | refine zea ?_ GE241.out) | exact HB.out))) : w.heap.size ≤ gb248)); replace HB := zaa.mk (zma (by repeat (first | (with_reducible first | exact HB.out | apply zda | apply zba | apply zca | refine zea ?_ GE240.out | refine zea ?_ GE241.out) | exact HB.out)) hb); have NB240_248 := zaa.mk ((by rw [hg]; exact Nat.ne_of_lt (zbc (g := gb240) (o := .cells #[.int .i64 a0_0, .int .i64 a0_1, .slice A0_2 l0_2.length c0_2] 40 (0, 0)) (by (with_reducible repeat (first | refine zga ?_ _ | refine zha ?_ | refine zfa ?_ _)); exact BK240.out)) : gb240 ≠ gb248)); have NB248_240 := zaa.mk ((by rw [hg]; exact Nat.ne_of_gt (zbc (g := gb240) (o := .cells #[.int .i64 a0_0, .int .i64 a0_1, .slice A0_2 l0_2.length c0_2] 40 (0, 0)) (by (with_reducible repeat (first | refine zga ?_ _ | refine zha ?_ | refine zfa ?_ _)); exact BK240.out)) : gb248 ≠ gb240)); replace BK240 := zaa.mk (zna (g := gb240) (o := .cells #[.int .i64 a0_0, .int .i64 a0_1, .slice A0_2 l0_2.length c0_2] 40 (0, 0)) (by (with_reducible repeat (first | refine zga ?_ _ | refine zha ?_ | refine zfa ?_ _)); exact BK240.out) hb); have NB241_248 := zaa.mk ((by rw [hg]; exact Nat.ne_of_lt (zbc (g := gb241) (o := .cells #[.int .i64 0, .int .i64 0, .slice none 0 0] 72 (0, 0)) (by (with_reducible repeat (first | refine zga ?_ _ | refine zha ?_ | refine zfa ?_ _)); exact BK241.out)) : gb241 ≠ gb248)); have NB248_241 := zaa.mk ((by rw [hg]; exact Nat.ne_of_gt (zbc (g := gb241) (o := .cells #[.int .i64 0, .int .i64 0, .slice none 0 0] 72 (0, 0)) (by (with_reducible repeat (first | refine zga ?_ _ | refine zha ?_ | refine zfa ?_ _)); exact BK241.out)) : gb248 ≠ gb241)); replace BK241 := zaa.mk (zna (g := gb241) (o := .cells #[.int .i64 0, .int .i64 0, .slice none 0 0] 72 (0, 0)) (by (with_reducible repeat (first | refine zga ?_ _ | refine zha ?_ | refine zfa ?_ _)); exact BK241.out) hb); clear hb hbox hg; have hnb14 := NB248_240.out; have hnc14 := NB240_248.out; have hnb15 := NB248_241.out; have hnc15 := NB241_248.out; have hcz16_0 : w13.cell? ⟨gb248, 0, none⟩ = some (.int .i64 0) := (zla BK248.out 0).trans rfl; have hcz16_1 : w13.cell? ⟨gb248, 1, none⟩ = some (.int .i64 0) := (zla BK248.out 1).trans rfl; have hcz16_2 : w13.cell? ⟨gb248, 2, none⟩ = some (.slice none 0 0) := (zla BK248.out 2).trans rfl; have hfz16_0 := zka BK248.out 0; have hfz16_1 := zka BK248.out 1; have hfz16_2 := zka BK248.out 2; obtain ⟨Ao17, co17, eo17⟩ := Kd.V_slice HO246.out; subst eo17; have hcz18_0 : w13.cell? ⟨gb240, 0, none⟩ = some (.int .i64 a0_0) := (zla BK240.out 0).trans rfl; have hcz18_1 : w13.cell? ⟨gb240, 1, none⟩ = some (.int .i64 a0_1) := (zla BK240.out 1).trans rfl; have hcz18_2 : w13.cell? ⟨gb240, 2, none⟩ = some (.slice A0_2 l0_2.length c0_2) := (zla BK240.out 2).trans rfl; have hfz18_0 := zka BK240.out 0; have hfz18_1 := zka BK240.out 1; have hfz18_2 := zka BK240.out 2) | ((with_reducible refine zxa (f := 43) rfl ?_); refine zhd (some 30) rfl rfl Tryz.func43 (by kernel_rfl) rfl #[.slice A1 l1.length c1, .func (.func 41) #[] #[]] rfl (by (try simp only [List.map_toArray, List.map_cons, List.map_nil]); first | done | rfl | (simp only [List.length_drop, List.length_take]; rfl)) ?_; (with_reducible refine (zmd.calls _ _ l1  false _ ?side1 ?side2 A6.out).mono ?_); (case side1 => exact Kd.zkc HR1.out (by repeat (first | (with_reducible first | exact HB.out | apply zda | apply zba | apply zca | refine zea ?_ GE240.out | refine zea ?_ GE241.out | refine zea ?_ GE248.out) | exact HB.out))); (case side2 => exact HC1.out); rintro e w19 ⟨rfl, hb⟩; refine ⟨_, rfl, ?_⟩; replace HO0_2 := zaa.mk (Kd.zqc (by (with_reducible repeat (first | apply Kd.zza | apply Kd.zya | apply Kd.zib)); exact (Kd.zcc (Kd.zbe (p := ⟨gb248, 2, none⟩) (Kd.zbe (p := ⟨gb248, 1, none⟩) (Kd.zbe (p := ⟨gb248, 0, none⟩) (Kd.zcc HO0_2.out (fun k_ hk => (⟨hk, hk.2⟩ : _ ∧ k_ ≠ gb248))) (fun _ hk => hk.2) (.int .i64 t242)) (fun _ hk => hk.2) (.int .i64 t243)) (fun _ hk => hk.2) (.slice Ao17 t244.length co17)) (fun _ h_ => h_.1))) hb); replace HO246 := zaa.mk (Kd.zqc (by (with_reducible repeat (first | apply Kd.zza | apply Kd.zya | apply Kd.zib)); exact (Kd.zcc (Kd.zbe (p := ⟨gb248, 2, none⟩) (Kd.zbe (p := ⟨gb248, 1, none⟩) (Kd.zbe (p := ⟨gb248, 0, none⟩) (Kd.zcc HO246.out (fun k_ hk => (⟨hk, hk.2⟩ : _ ∧ k_ ≠ gb248))) (fun _ hk => hk.2) (.int .i64 t242)) (fun _ hk => hk.2) (.int .i64 t243)) (fun _ hk => hk.2) (.slice Ao17 t244.length co17)) (fun _ h_ => h_.1))) hb); replace BK240 := zaa.mk (zna (g := gb240) (o := .cells #[.int .i64 a0_0, .int .i64 a0_1, .slice A0_2 l0_2.length c0_2] 40 (0, 0)) (by (with_reducible repeat (first | refine zga ?_ _ | refine zha ?_ | refine zfa ?_ _)); refine zsc ?_ NB240_248.out _; (with_reducible repeat (first | refine zga ?_ _ | refine zha ?_ | refine zfa ?_ _)); refine zsc ?_ NB240_248.out _; (with_reducible repeat (first | refine zga ?_ _ | refine zha ?_ | refine zfa ?_ _)); refine zsc ?_ NB240_248.out _; (with_reducible repeat (first | refine zga ?_ _ | refine zha ?_ | refine zfa ?_ _)); exact BK240.out) hb); replace BK241 := zaa.mk (zna (g := gb241) (o := .cells #[.int .i64 0, .int .i64 0, .slice none 0 0] 72 (0, 0)) (by (with_reducible repeat (first | refine zga ?_ _ | refine zha ?_ | refine zfa ?_ _)); refine zsc ?_ NB241_248.out _; (with_reducible repeat (first | refine zga ?_ _ | refine zha ?_ | refine zfa ?_ _)); refine zsc ?_ NB241_248.out _; (with_reducible repeat (first | refine zga ?_ _ | refine zha ?_ | refine zfa ?_ _)); refine zsc ?_ NB241_248.out _; (with_reducible repeat (first | refine zga ?_ _ | refine zha ?_ | refine zfa ?_ _)); exact BK241.out) hb); replace BK248 := zaa.mk (zna (g := gb248) (o := .cells #[.int .i64 t242, .int .i64 t243, .slice Ao17 t244.length co17] 72 (0, 0)) (by (with_reducible repeat (first | refine zga ?_ _ | refine zha ?_ | refine zfa ?_ _)); refine zzc (cs := #[.int .i64 t242, .int .i64 t243, .slice none 0 0]) ?_ 2 _ rfl; (with_reducible repeat (first | refine zga ?_ _ | refine zha ?_ | refine zfa ?_ _)); refine zzc (cs := #[.int .i64 t242, .int .i64 0, .slice none 0 0]) ?_ 1 _ rfl; (with_reducible repeat (first | refine zga ?_ _ | refine zha ?_ | refine zfa ?_ _)); refine zzc (cs := #[.int .i64 0, .int .i64 0, .slice none 0 0]) ?_ 0 _ rfl; (with_reducible repeat (first | refine zga ?_ _ | refine zha ?_ | refine zfa ?_ _)); exact BK248.out) hb); replace HB := zaa.mk (zma (by repeat (first | (with_reducible first | exact HB.out | apply zda | apply zba | apply zca | refine zea ?_ GE240.out | refine zea ?_ GE241.out | refine zea ?_ GE248.out) | exact HB.out)) hb); (try clear hb); (try clear hb2); (try clear hk); (try clear hi); have hcz20_0 : w19.cell? ⟨gb248, 0, none⟩ = some (.int .i64 t242) := (zla BK248.out 0).trans rfl; have hcz20_1 : w19.cell? ⟨gb248, 1, none⟩ = some (.int .i64 t243) := (zla BK248.out 1).trans rfl; have hcz20_2 : w19.cell? ⟨gb248, 2, none⟩ = some (.slice Ao17 t244.length co17) := (zla BK248.out 2).trans rfl; have hfz20_0 := zka BK248.out 0; have hfz20_1 := zka BK248.out 1; have hfz20_2 := zka BK248.out 2; have hcz21_0 : w19.cell? ⟨gb241, 0, none⟩ = some (.int .i64 0) := (zla BK241.out 0).trans rfl; have hcz21_1 : w19.cell? ⟨gb241, 1, none⟩ = some (.int .i64 0) := (zla BK241.out 1).trans rfl; have hcz21_2 : w19.cell? ⟨gb241, 2, none⟩ = some (.slice none 0 0) := (zla BK241.out 2).trans rfl; have hfz21_0 := zka BK241.out 0; have hfz21_1 := zka BK241.out 1; have hfz21_2 := zka BK241.out 2))
       refine bodyPost_ret (results_ct rfl _ _ gb241 72 #[.int .i64 t242, .int .i64 t243, .slice Ao17 t244.length co17] (0, 0) _ rfl (by (with_reducible repeat (first | refine zga ?_ _ | refine zha ?_ | refine zfa ?_ _)); refine zzc (cs := #[.int .i64 t242, .int .i64 t243, .slice none 0 0]) ?_ 2 _ rfl; (with_reducible repeat (first | refine zga ?_ _ | refine zha ?_ | refine zfa ?_ _)); refine zzc (cs := #[.int .i64 t242, .int .i64 0, .slice none 0 0]) ?_ 1 _ rfl; (with_reducible repeat (first | refine zga ?_ _ | refine zha ?_ | refine zfa ?_ _)); refine zzc (cs := #[.int .i64 0, .int .i64 0, .slice none 0 0]) ?_ 0 _ rfl; (with_reducible repeat (first | refine zga ?_ _ | refine zha ?_ | refine zfa ?_ _)); exact BK241.out) Tryz.underlying72 rfl (by kernel_rfl)) rfl ?_
       exact ⟨_, by first | rfl | (simp [zwa, zva] <;> rfl) | (simp [*, zwa, zva] <;> rfl), by (with_reducible repeat (first | apply Kd.zza | apply Kd.zya | apply Kd.zib)); exact Kd.zcc (Kd.zbe (p := ⟨gb241, 2, none⟩) (Kd.zbe (p := ⟨gb241, 1, none⟩) (Kd.zbe (p := ⟨gb241, 0, none⟩) (Kd.zcc HO246.out (fun k_ hk => (⟨hk, hk.1.2.2⟩ : _ ∧ k_ ≠ gb241))) (fun _ hk => hk.2) (.int .i64 t242)) (fun _ hk => hk.2) (.int .i64 t243)) (fun _ hk => hk.2) (.slice Ao17 t244.length co17)) (fun _ hk => hk.1.1.1), by repeat (first | (with_reducible first | exact HB.out | apply zda | apply zba | apply zca | refine zea ?_ GE240.out | refine zea ?_ GE241.out | refine zea ?_ GE248.out) | exact HB.out)⟩
   · rw [if_neg c5] at H
     have c5b0 : ((l1.length : Int) == (l0_2.length : Int)) = false := beq_eq_false_iff_ne.mpr c5
     have c5b1 : ((l1.length : Int) != (l0_2.length : Int)) = true := bne_iff_ne.mpr c5
     have c5b2 : (l1.length == l0_2.length) = false := by first | simpa using c5 | (simp at c5 ⊢; omega)
     exact absurd H (by simp)
 · rw [if_neg c4] at H
   have c4b0 : (t247 == 0) = false := beq_eq_false_iff_ne.mpr c4
   have c4b1 : (t247 != 0) = true := bne_iff_ne.mpr c4
   exact absurd H (by simp)
end Go.Proofs.YtoacbkoenkiahaaGreat.PTopGluePlate
end
section
namespace Go.Proofs.YtoacbkoenkiahaaGreat.PTopGluePlate
open Go.RowKit Go.Proofs.YtoacbkoenkiahaaGreatW.PrintWords Go.Proofs.YtoacbkoenkiahaaGreatW.PrintLast Go.Proofs.YtoacbkoenkiahaaGreatW.PrintMore
attribute [local go_sem] znb zlb zhc zgc zeb zdb zmb zkb
set_option linter.unusedVariables false
set_option linter.unusedSimpArgs false
mutual
def zub.l0 : Nat → Int → List Int → Int → Int → Option (Int)
 | 0, _, _, _, _ => none
 | k + 1, x2, x5, x6, x7 => if x7 < x6 then (if 0 ≤ x7 then (if x7 < (x5.length : Int) then (zub.l1 k x2 (rd x5 x7) x5 x6 x7) else (none)) else (none)) else (some x2)
def zub.l1 : Nat → Int → Int → List Int → Int → Int → Option (Int)
 | 0, _, _, _, _, _ => none
 | k + 1, x2, x4, x5, x6, x7 => if x4 > 0 then (zub.l1 k (wrap64 (x2 + 1)) (Go.bits .and .i64 x4 (wrap64 (x4 - 1))) x5 x6 x7) else (zub.l0 k x2 x5 x6 (wrap64 (x7 + 1)))
end
def zub.f (k : Nat) (l0 : List Int) : Option (Int) := zub.l0 k 0 l0 (l0.length : Int) 0
set_option maxHeartbeats 8000000 in
set_option maxRecDepth 100000 in
theorem zub.calls (k : Nat) (A0 : Option Addr) (c0 : Nat) (l0 : List Int) (r : Int) (w : World) (hr0 : Kd.C (Kd.int .i64) w A0 l0.length l0) (hc0 : l0.length ≤ c0) (h : zub.f k l0 = some r) :
 Calls Tryz.prog 27 #[.slice A0 l0.length c0] w fun e w' => e = .returned (.int .i64 r) ∧ zjc w w' := by
 have HR0 := zaa.mk hr0
 have HC0 := zaa.mk hc0
 clear hr0 hc0
 have H : (zub.l0 k 0 l0 (l0.length : Int) 0) = some r := h
 clear h
 have H' := zaa.mk H
 clear H
 go_enter Tryz.func27, Tryz.ntmps27
 go_wp2
 go_loopg [2, 7] k (fun kq v2 v7 w' => ∃ (x2_1 : Int) (x7_1 : Int), v2 = .int .i64 x2_1 ∧ v7 = .int .i64 x7_1 ∧ zaa (zub.l0 kq x2_1 l0 (l0.length : Int) x7_1 = some r) ∧ zaa (kq ≤ k) ∧ zjc w w')
 case atStart => exact ⟨(0), (0), (by first | rfl | (simp; done) | (simp [*]; done)), (by first | rfl | (simp; done) | (simp [*]; done)), H', ⟨Nat.le_refl _⟩, by repeat (first | exact zjc.refl _ | apply zjc.step)⟩
 case round =>
  clear H'
  obtain ⟨x2_1, x7_1, rfl, rfl, HA, HK1, ⟨m1, rfl⟩⟩ := hrel
  cases gk with
  | zero => exact absurd HA.out (by simp [zub.l0])
  | succ k1 =>
   have H := HA.out
   clear HA
   simp only [zub.l0] at H
   by_cases c2 : x7_1 < (l0.length : Int)
   · rw [if_pos c2] at H
     have c2b0 : decide (x7_1 < (l0.length : Int)) = true := decide_eq_true c2
     clear c2
     by_cases c3 : 0 ≤ x7_1
     · rw [if_pos c3] at H
       have c3b0 : decide (0 ≤ x7_1) = true := decide_eq_true c3
       clear c3
       by_cases c4 : x7_1 < (l0.length : Int)
       · rw [if_pos c4] at H
         have c4b0 : decide (x7_1 < (l0.length : Int)) = true := decide_eq_true c4
         clear c4
         have H' := zaa.mk H
         clear H
         have p250 : 0 ≤ (x7_1 : Int) := of_decide_eq_true (by first | (with_reducible assumption) | assumption)
         have q250 : x7_1 < (l0.length : Int) := of_decide_eq_true (by first | (with_reducible assumption) | assumption)
         obtain ⟨ad250, e250, hx250_0⟩ := Kd.at_int HR0.out x7_1 p250 q250
         cases e250
         replace p250 := eq_true p250
         replace q250 := eq_true q250
         go_wp2
         go_loopg [2, 4] k1 (fun kq v2 v4 w' => ∃ (x2_2 : Int) (x4_2 : Int), v2 = .int .i64 x2_2 ∧ v4 = .int .i64 x4_2 ∧ zaa (zub.l1 kq x2_2 x4_2 l0 (l0.length : Int) x7_1 = some r) ∧ zaa (kq ≤ k1) ∧ zjc w w')
         case atStart => exact ⟨(x2_1), (rd l0 x7_1), (by first | rfl | (simp; done) | (simp [*]; done)), (by first | rfl | (simp; done) | (simp [*]; done)), H', ⟨Nat.le_refl _⟩, by repeat (first | exact zjc.refl _ | apply zjc.step)⟩
         case round =>
          clear H'
          try clear c2
          try clear c2b0
          try clear p2
          try clear q2
          try clear hx2
          try clear c3
          try clear c3b0
          try clear c4
          try clear c4b0
          try clear hx250_0
          try clear p250
          try clear q250
          obtain ⟨x2_2, x4_2, rfl, rfl, HA, HK2, ⟨m2, rfl⟩⟩ := hrel
          cases gk with
          | zero => exact absurd HA.out (by simp [zub.l1])
          | succ k2 =>
           have H := HA.out
           clear HA
           simp only [zub.l1] at H
           by_cases c5 : x4_2 > 0
           · rw [if_pos c5] at H
             have c5b0 : decide (0 < x4_2) = true := decide_eq_true c5
             clear c5
             have H' := zaa.mk H
             clear H
             go_wp2
             go_roundg k2
             case measure => have := HK1.out; have := HK2.out; omega
             case rel => exact ⟨(wrap64 (x2_2 + 1)), (Go.bits .and .i64 x4_2 (wrap64 (x4_2 - 1))), (by first | rfl | (simp; done) | (simp [*]; done)), (by first | rfl | (simp; done) | (simp [*]; done)), H', ⟨by have := HK1.out; have := HK2.out; omega⟩, by repeat (first | exact zjc.refl _ | apply zjc.step)⟩
           · rw [if_neg c5] at H
             have c5b0 : decide (0 < x4_2) = false := decide_eq_false c5
             clear c5
             have H' := zaa.mk H
             clear H
             go_wp2
             go_roundg k2
             case measure => have := HK1.out; have := HK2.out; omega
             case rel => exact ⟨(x2_2), (wrap64 (x7_1 + 1)), (by first | rfl | (simp; done) | (simp [*]; done)), (by first | rfl | (simp; done) | (simp [*]; done)), H', ⟨by have := HK1.out; have := HK2.out; omega⟩, by repeat (first | exact zjc.refl _ | apply zjc.step)⟩
       · rw [if_neg c4] at H
         exact absurd H (by simp)
     · rw [if_neg c3] at H
       exact absurd H (by simp)
   · rw [if_neg c2] at H
     have c2b0 : decide (x7_1 < (l0.length : Int)) = false := decide_eq_false c2
     clear c2
     obtain rfl := Option.some.inj H
     go_wp2
     go_ret
     exact ⟨by first | rfl | (simp; done) | (simp [*]; done), by repeat (first | exact zjc.refl _ | apply zjc.step)⟩
end Go.Proofs.YtoacbkoenkiahaaGreat.PTopGluePlate
end
section
namespace Go.Proofs.YtoacbkoenkiahaaGreat.PTopGluePlate
open Go.RowKit Go.Proofs.YtoacbkoenkiahaaGreatW.PrintWords Go.Proofs.YtoacbkoenkiahaaGreatW.PrintLast Go.Proofs.YtoacbkoenkiahaaGreatW.PrintMore
attribute [local go_sem] znb zlb zhc zgc zeb zdb zmb zkb
set_option linter.unusedVariables false
set_option linter.unusedSimpArgs false
def zbd.l0 : Nat → List Int → Int → Int → Option (Int)
 | 0, _, _, _ => none
 | k + 1, x0, x3, x4 => if x4 < (x0.length : Int) then (if 0 ≤ x4 then (zbd.l0 k x0 (mn x3 (rd x0 x4)) (wrap64 (x4 + 1))) else (none)) else (some x3)
def zbd.f (k : Nat) (l0 : List Int) : Option (Int) := if (l0.length : Int) < 1 then (none) else (if 0 < (l0.length : Int) then (zbd.l0 k l0 (rd l0 0) 1) else (none))
set_option maxHeartbeats 8000000 in
set_option maxRecDepth 100000 in
theorem zbd.calls (k : Nat) (A0 : Option Addr) (c0 : Nat) (l0 : List Int) (r : Int) (w : World) (hr0 : Kd.C (Kd.int .i64) w A0 l0.length l0) (hc0 : l0.length ≤ c0) (h : zbd.f k l0 = some r) :
 Calls Tryz.prog 28 #[.slice A0 l0.length c0] w fun e w' => e = .returned (.int .i64 r) ∧ Below w.heap.size w w' := by
 have HR0 := zaa.mk hr0
 have HC0 := zaa.mk hc0
 clear hr0 hc0
 have HB := zaa.mk (Below.refl w.heap.size w)
 have H : (if (l0.length : Int) < 1 then (none) else (if 0 < (l0.length : Int) then (zbd.l0 k l0 (rd l0 0) 1) else (none))) = some r := h
 clear h
 by_cases c2 : (l0.length : Int) < 1
 · rw [if_pos c2] at H
   exact absurd H (by simp)
 · rw [if_neg c2] at H
   have c2b0 : decide ((l0.length : Int) < 1) = false := decide_eq_false c2
   have c2b1 : decide (l0.length < 1) = false := decide_eq_false (by omega)
   clear c2
   by_cases c3 : 0 < (l0.length : Int)
   · rw [if_pos c3] at H
     have c3b0 : decide (0 < (l0.length : Int)) = true := decide_eq_true c3
     have c3b1 : decide (0 < l0.length) = true := decide_eq_true (by omega)
     clear c3
     have H' := zaa.mk H
     clear H
     have p251 : 0 ≤ (0 : Int) := (by omega)
     have q251 : 0 < (l0.length : Int) := of_decide_eq_true (by first | (with_reducible assumption) | assumption)
     obtain ⟨ad251, e251, hx251_0⟩ := Kd.at_int HR0.out 0 p251 q251
     cases e251
     have qi251 : (0 < l0.length) = True := eq_true (by omega)
     (try rw [show ((0 : Int)).toNat = 0 from rfl] at hx251_0)
     (try rw [Addr.add_zero'] at hx251_0)
     replace p251 := eq_true p251
     replace q251 := eq_true q251
     go_enter Tryz.func28, Tryz.ntmps28
     go_wp2
     go_loopg [3, 4] k (fun kq v3 v4 w' => ∃ (x3_1 : Int) (x4_1 : Int), v3 = .int .i64 x3_1 ∧ v4 = .int .i64 x4_1 ∧ zaa (zbd.l0 kq l0 x3_1 x4_1 = some r) ∧ zaa (kq ≤ k) ∧ zaa (Below w.heap.size w w'))
     case atStart => exact ⟨(rd l0 0), (1), (by first | rfl | (simp; done) | (simp [*]; done)), (by first | rfl | (simp; done) | (simp [*]; done)), H', ⟨Nat.le_refl _⟩, ⟨by repeat (first | (with_reducible first | exact HB.out | apply zda | apply zba | apply zca) | exact HB.out)⟩⟩
     case round =>
      clear H'
      try clear c2
      try clear c2b0
      try clear c2b1
      try clear p2
      try clear q2
      try clear hx2
      try clear qi2
      try clear c3
      try clear c3b0
      try clear c3b1
      try clear hx251_0
      try clear p251
      try clear q251
      obtain ⟨x3_1, x4_1, rfl, rfl, HA, HK1, HB⟩ := hrel
      cases gk with
      | zero => exact absurd HA.out (by simp [zbd.l0])
      | succ k1 =>
       have H := HA.out
       clear HA
       simp only [zbd.l0] at H
       by_cases c4 : x4_1 < (l0.length : Int)
       · rw [if_pos c4] at H
         have c4b0 : decide (x4_1 < (l0.length : Int)) = true := decide_eq_true c4
         clear c4
         by_cases c5 : 0 ≤ x4_1
         · rw [if_pos c5] at H
           have c5b0 : decide (0 ≤ x4_1) = true := decide_eq_true c5
           clear c5
           obtain ⟨ji6, hji6⟩ : ∃ j_ : Int, (mn x3_1 (rd l0 x4_1)) = j_ := ⟨_, rfl⟩
           replace H : (zbd.l0 k1 l0 ji6 (wrap64 (x4_1 + 1))) = some r := by first | (rw [hji6] at H; exact H) | (simp only [hji6] at H ⊢; exact H)
           have hji6_ : (if (rd l0 x4_1) < x3_1 then (rd l0 x4_1) else x3_1) = ji6 := hji6
           have H' := zaa.mk H
           clear H
           have p252 : 0 ≤ (x4_1 : Int) := of_decide_eq_true (by first | (with_reducible assumption) | assumption)
           have q252 : x4_1 < (l0.length : Int) := of_decide_eq_true (by first | (with_reducible assumption) | assumption)
           obtain ⟨ad252, e252, hx252_0⟩ := Kd.at_int HR0.out x4_1 p252 q252
           obtain rfl : ad251 = ad252 := (by injection e252)
           replace hx252_0 := (HB.out.cell (World.block_lt_of_cell? w _ hx252_0)).trans hx252_0
           replace p252 := eq_true p252
           replace q252 := eq_true q252
           go_wp2
           go_roundg k1
           case measure => have := HK1.out; omega
           case rel => exact ⟨(ji6), (wrap64 (x4_1 + 1)), (by first | rfl | (simp; done) | (simp only [← hji6] <;> (first | rfl | simp)) | (simp [*]; done)), (by first | rfl | (simp; done) | (simp [*]; done)), H', ⟨by have := HK1.out; omega⟩, ⟨by repeat (first | (with_reducible first | exact HB.out | apply zda | apply zba | apply zca) | exact HB.out)⟩⟩
         · rw [if_neg c5] at H
           exact absurd H (by simp)
       · rw [if_neg c4] at H
         have c4b0 : decide (x4_1 < (l0.length : Int)) = false := decide_eq_false c4
         clear c4
         obtain rfl := Option.some.inj H
         go_wp2
         go_ret
         exact ⟨by first | rfl | (simp [zwa, zva] <;> rfl) | (simp [*, zwa, zva] <;> rfl), by repeat (first | (with_reducible first | exact HB.out | apply zda | apply zba | apply zca) | exact HB.out)⟩
   · rw [if_neg c3] at H
     exact absurd H (by simp)
end Go.Proofs.YtoacbkoenkiahaaGreat.PTopGluePlate
end
section
namespace Go.Proofs.YtoacbkoenkiahaaGreat.PTopGluePlate
open Go.RowKit Go.Proofs.YtoacbkoenkiahaaGreatW.PrintWords Go.Proofs.YtoacbkoenkiahaaGreatW.PrintLast Go.Proofs.YtoacbkoenkiahaaGreatW.PrintMore
attribute [local go_sem] znb zlb zhc zgc zeb zdb zmb zkb
set_option linter.unusedVariables false
set_option linter.unusedSimpArgs false
def zcd.l0 : Nat → List Int → Int → Int → Option (Int)
 | 0, _, _, _ => none
 | k + 1, x0, x3, x4 => if x4 < (x0.length : Int) then (if 0 ≤ x4 then (zcd.l0 k x0 (mx x3 (rd x0 x4)) (wrap64 (x4 + 1))) else (none)) else (some x3)
def zcd.f (k : Nat) (l0 : List Int) : Option (Int) := if (l0.length : Int) < 1 then (none) else (if 0 < (l0.length : Int) then (zcd.l0 k l0 (rd l0 0) 1) else (none))
set_option maxHeartbeats 8000000 in
set_option maxRecDepth 100000 in
theorem zcd.calls (k : Nat) (A0 : Option Addr) (c0 : Nat) (l0 : List Int) (r : Int) (w : World) (hr0 : Kd.C (Kd.int .i64) w A0 l0.length l0) (hc0 : l0.length ≤ c0) (h : zcd.f k l0 = some r) :
 Calls Tryz.prog 29 #[.slice A0 l0.length c0] w fun e w' => e = .returned (.int .i64 r) ∧ Below w.heap.size w w' := by
 have HR0 := zaa.mk hr0
 have HC0 := zaa.mk hc0
 clear hr0 hc0
 have HB := zaa.mk (Below.refl w.heap.size w)
 have H : (if (l0.length : Int) < 1 then (none) else (if 0 < (l0.length : Int) then (zcd.l0 k l0 (rd l0 0) 1) else (none))) = some r := h
 clear h
 by_cases c2 : (l0.length : Int) < 1
 · rw [if_pos c2] at H
   exact absurd H (by simp)
 · rw [if_neg c2] at H
   have c2b0 : decide ((l0.length : Int) < 1) = false := decide_eq_false c2
   have c2b1 : decide (l0.length < 1) = false := decide_eq_false (by omega)
   clear c2
   by_cases c3 : 0 < (l0.length : Int)
   · rw [if_pos c3] at H
     have c3b0 : decide (0 < (l0.length : Int)) = true := decide_eq_true c3
     have c3b1 : decide (0 < l0.length) = true := decide_eq_true (by omega)
     clear c3
     have H' := zaa.mk H
     clear H
     have p253 : 0 ≤ (0 : Int) := (by omega)
     have q253 : 0 < (l0.length : Int) := of_decide_eq_true (by first | (with_reducible assumption) | assumption)
     obtain ⟨ad253, e253, hx253_0⟩ := Kd.at_int HR0.out 0 p253 q253
     cases e253
     have qi253 : (0 < l0.length) = True := eq_true (by omega)
     (try rw [show ((0 : Int)).toNat = 0 from rfl] at hx253_0)
     (try rw [Addr.add_zero'] at hx253_0)
     replace p253 := eq_true p253
     replace q253 := eq_true q253
     go_enter Tryz.func29, Tryz.ntmps29
     go_wp2
     go_loopg [3, 4] k (fun kq v3 v4 w' => ∃ (x3_1 : Int) (x4_1 : Int), v3 = .int .i64 x3_1 ∧ v4 = .int .i64 x4_1 ∧ zaa (zcd.l0 kq l0 x3_1 x4_1 = some r) ∧ zaa (kq ≤ k) ∧ zaa (Below w.heap.size w w'))
     case atStart => exact ⟨(rd l0 0), (1), (by first | rfl | (simp; done) | (simp [*]; done)), (by first | rfl | (simp; done) | (simp [*]; done)), H', ⟨Nat.le_refl _⟩, ⟨by repeat (first | (with_reducible first | exact HB.out | apply zda | apply zba | apply zca) | exact HB.out)⟩⟩
     case round =>
      clear H'
      try clear c2
      try clear c2b0
      try clear c2b1
      try clear p2
      try clear q2
      try clear hx2
      try clear qi2
      try clear c3
      try clear c3b0
      try clear c3b1
      try clear hx253_0
      try clear p253
      try clear q253
      obtain ⟨x3_1, x4_1, rfl, rfl, HA, HK1, HB⟩ := hrel
      cases gk with
      | zero => exact absurd HA.out (by simp [zcd.l0])
      | succ k1 =>
       have H := HA.out
       clear HA
       simp only [zcd.l0] at H
       by_cases c4 : x4_1 < (l0.length : Int)
       · rw [if_pos c4] at H
         have c4b0 : decide (x4_1 < (l0.length : Int)) = true := decide_eq_true c4
         clear c4
         by_cases c5 : 0 ≤ x4_1
         · rw [if_pos c5] at H
           have c5b0 : decide (0 ≤ x4_1) = true := decide_eq_true c5
           clear c5
           obtain ⟨ji6, hji6⟩ : ∃ j_ : Int, (mx x3_1 (rd l0 x4_1)) = j_ := ⟨_, rfl⟩
           replace H : (zcd.l0 k1 l0 ji6 (wrap64 (x4_1 + 1))) = some r := by first | (rw [hji6] at H; exact H) | (simp only [hji6] at H ⊢; exact H)
           have hji6_ : (if x3_1 < (rd l0 x4_1) then (rd l0 x4_1) else x3_1) = ji6 := hji6
           have H' := zaa.mk H
           clear H
           have p254 : 0 ≤ (x4_1 : Int) := of_decide_eq_true (by first | (with_reducible assumption) | assumption)
           have q254 : x4_1 < (l0.length : Int) := of_decide_eq_true (by first | (with_reducible assumption) | assumption)
           obtain ⟨ad254, e254, hx254_0⟩ := Kd.at_int HR0.out x4_1 p254 q254
           obtain rfl : ad253 = ad254 := (by injection e254)
           replace hx254_0 := (HB.out.cell (World.block_lt_of_cell? w _ hx254_0)).trans hx254_0
           replace p254 := eq_true p254
           replace q254 := eq_true q254
           go_wp2
           go_roundg k1
           case measure => have := HK1.out; omega
           case rel => exact ⟨(ji6), (wrap64 (x4_1 + 1)), (by first | rfl | (simp; done) | (simp only [← hji6] <;> (first | rfl | simp)) | (simp [*]; done)), (by first | rfl | (simp; done) | (simp [*]; done)), H', ⟨by have := HK1.out; omega⟩, ⟨by repeat (first | (with_reducible first | exact HB.out | apply zda | apply zba | apply zca) | exact HB.out)⟩⟩
         · rw [if_neg c5] at H
           exact absurd H (by simp)
       · rw [if_neg c4] at H
         have c4b0 : decide (x4_1 < (l0.length : Int)) = false := decide_eq_false c4
         clear c4
         obtain rfl := Option.some.inj H
         go_wp2
         go_ret
         exact ⟨by first | rfl | (simp [zwa, zva] <;> rfl) | (simp [*, zwa, zva] <;> rfl), by repeat (first | (with_reducible first | exact HB.out | apply zda | apply zba | apply zca) | exact HB.out)⟩
   · rw [if_neg c3] at H
     exact absurd H (by simp)
end Go.Proofs.YtoacbkoenkiahaaGreat.PTopGluePlate
end
section
namespace Go.Proofs.YtoacbkoenkiahaaGreat.PTopGluePlate
open Go.RowKit Go.Proofs.YtoacbkoenkiahaaGreatW.PrintWords Go.Proofs.YtoacbkoenkiahaaGreatW.PrintLast Go.Proofs.YtoacbkoenkiahaaGreatW.PrintMore
attribute [local go_sem] znb zlb zhc zgc zeb zdb zmb zkb
set_option linter.unusedVariables false
set_option linter.unusedSimpArgs false
attribute [local go_sem] Oper.semAt_some
set_option maxRecDepth 100000 in
set_option maxHeartbeats 2000000 in
theorem print_shifts_1.one (n : Nat) (hn : 1 ≤ n) (l Bs : Nat) (J Jx : List Unit → World → Prop)
 (hY : ∀ pre x W, J pre W → pre.length < 1 → YieldAt Fence.wide (n - 1) Tryz.prog l #[.agg #[.int .i64 0, .int .i64 0]] W fun e W' =>
  (e = .returned (.bool true) ∧ J (pre ++ [x]) W' ∧ W'.heap[Bs]? = W.heap[Bs]?) ∨ (e = .returned (.bool false) ∧ Jx (pre ++ [x]) W'))
 (W : World) (hBs : W.heap[Bs]? = some (.cells #[.int .i64 0, .int .i64 0, .int .i64 0, .int .i64 0] 53 (0, 0))) (h0 : J [] W) :
 CallsIn Fence.wide n Tryz.prog 46 #[.func (.yield l) #[] #[], .pointer (some ⟨Bs, 0, none⟩)] W fun e W' => (∃ v, e = .returned v) ∧
  ((∃ ys, ys = [()] ∧ J ys W') ∨ (∃ pre, pre <+: [()] ∧ Jx pre W')) := by
 refine callsIn_of_wp Tryz.func46 rfl trivial ?_ rfl
 simp only [Tryz.ntmps46, List.size_toArray, List.length_cons, List.length_nil, Nat.reduceAdd, Nat.reduceSub, Array.replicate_succ, Array.replicate_zero, List.push_toArray, List.append_toArray, List.nil_append, List.cons_append]
 have hro : Fence.wide.round = none := rfl
 have hu53 := Tryz.underlying53
 have hu51 := Tryz.underlying51
 have c0 := zrd hBs 0
 have c1 := zrd hBs 1
 have c2 := zrd hBs 2
 have c3 := zrd hBs 3
 simp at c0 c1 c2 c3
 gi_wp2
 gi_loopw [3, 4] (fun v3 v4 wr => (v3 = .int .i64 0 ∧ zaa (J [] wr) ∧ zaa (wr.heap[Bs]? = some (.cells #[.int .i64 0, .int .i64 0, .int .i64 0, .int .i64 0] 53 (0, 0)))) ∨ (v3 = .int .i64 1 ∧ zaa (J [()] wr) ∧ zaa (wr.heap[Bs]? = some (.cells #[.int .i64 0, .int .i64 0, .int .i64 0, .int .i64 0] 53 (0, 0)))))
  (fun v3 _ _ => 2 - (intOf v3).toNat)
 case atStart => exact .inl ⟨rfl, ⟨h0⟩, ⟨hBs⟩⟩
 case round =>
  rcases hrel with ⟨rfl, HJ, HB⟩ | ⟨rfl, HJ, HB⟩
  · have c0 := zrd HB.out 0
    have c1 := zrd HB.out 1
    have c2 := zrd HB.out 2
    have c3 := zrd HB.out 3
    simp at c0 c1 c2 c3
    gi_wp2
    gi_loopw [4] (fun v4 w2 => (v4 = .int .i64 0 ∧ zaa (J [] w2) ∧ zaa (w2.heap[Bs]? = some (.cells #[.int .i64 0, .int .i64 0, .int .i64 0, .int .i64 0] 53 (0, 0)))) ∨ (v4 = .int .i64 1 ∧ zaa (J [()] w2) ∧ zaa (w2.heap[Bs]? = some (.cells #[.int .i64 0, .int .i64 0, .int .i64 0, .int .i64 0] 53 (0, 0)))))
     (fun v4 _ => 2 - (intOf v4).toNat)
    case atStart => exact .inl ⟨rfl, HJ, HB⟩
    case round =>
     rcases hrel with ⟨rfl, HJ2, HB2⟩ | ⟨rfl, HJ2, HB2⟩
     · have c0 := zrd HB2.out 0
       have c1 := zrd HB2.out 1
       have c2 := zrd HB2.out 2
       have c3 := zrd HB2.out 3
       simp at c0 c1 c2 c3
       obtain ⟨fn, tmps, assign, body, hy, hR⟩ := hY [] () _ HJ2.out (by simp)
       gi_wp2
       refine hR.mono ?_
       rintro e W3 (⟨rfl, hJ3, hk3⟩ | ⟨rfl, hJx3⟩)
       · gi_wp2
         go_roundw
         case rel => exact .inr ⟨rfl, ⟨hJ3⟩, ⟨hk3.trans HB2.out⟩⟩
         case measure => simp [intOf]
       · gi_wp2
         refine bodyPost_ret (results_none rfl _ _ _) rfl ?_
         exact ⟨⟨_, rfl⟩, .inr ⟨_, ⟨[], rfl⟩, hJx3⟩⟩
     · have c0 := zrd HB2.out 0
       have c1 := zrd HB2.out 1
       have c2 := zrd HB2.out 2
       have c3 := zrd HB2.out 3
       simp at c0 c1 c2 c3
       gi_wp2
       go_roundw
       case rel => exact .inr ⟨rfl, HJ2, HB2⟩
       case measure => simp [intOf]
  · have c0 := zrd HB.out 0
    have c1 := zrd HB.out 1
    simp at c0 c1
    gi_wp2
    go_end0
    exact ⟨⟨_, rfl⟩, .inl ⟨_, rfl, HJ.out⟩⟩
theorem print_shifts_1.stops (n : Nat) (hn : 1 ≤ n) (Bs : Nat) (w : World) (hBs : w.heap[Bs]? = some (.cells #[.int .i64 0, .int .i64 0, .int .i64 0, .int .i64 0] 53 (0, 0))) :
 SeqStopsK Fence.wide n Tryz.prog 46 #[.pointer (some ⟨Bs, 0, none⟩)] (fun _ : Unit => #[Value.agg #[.int .i64 0, .int .i64 0]]) (fun A B => B.heap[Bs]? = A.heap[Bs]?) (fun ys => ys = [()]) (fun pre => pre <+: [()]) 1 w := fun l J Jx W hW _ _ hY h0 =>
 print_shifts_1.one n hn l Bs J Jx hY W ((hW.block _ (zbc hBs)).trans hBs) h0
set_option maxHeartbeats 1000000 in
theorem print_shifts.zero (n : Nat) (w : World) :
 CallsIn Fence.wide n Tryz.prog 26 #[.agg #[.int .i64 0, .int .i64 0, .int .i64 0, .int .i64 0]] w fun e w' => e = .returned (.func (.func 46) #[] #[.pointer (some ⟨w.heap.size, 0, none⟩)]) ∧ w' = w.alloc (.cells #[.int .i64 0, .int .i64 0, .int .i64 0, .int .i64 0] 53) := by
 refine callsIn_of_wp Tryz.func26 rfl trivial ?_ rfl
 simp only [Tryz.ntmps26, List.size_toArray, List.length_cons, List.length_nil, Nat.reduceAdd, Nat.reduceSub, Array.replicate_succ, Array.replicate_zero, List.push_toArray, List.append_toArray, List.nil_append, List.cons_append]
 have hu53 := Tryz.underlying53
 have hu51 := Tryz.underlying51
 gi_wp2
 go_ret
 exact ⟨rfl, rfl⟩
theorem othersAs_own {β : Type} (G : Nat) (w : World) : OwnFrom w.heap.size (fun (_ : β) W => OthersAs G w W ∧ w.heap.size ≤ W.heap.size) := by
 intro s W W' row h hg hr
 exact ⟨fun k hk hl => (hg.block k (Nat.lt_of_lt_of_le hl h.2) (fun e => by have := (hr k e.symm).1; omega)).trans (h.1 k hk hl), Nat.le_trans h.2 hg.size⟩
theorem ink_own (B : Nat) (nn : Int) : Own (fun (pre : List Unit) W => ∃ v, Boxed W B 24 v ∧ (pre = [] → v = .slice none 0 0) ∧ (pre ≠ [] → ∃ g cap cur, v = .slice (some ⟨g, 0, none⟩) 1 cap ∧ 1 ≤ cap ∧ W.heap[g]? = some (.cells cur 3 (0, 0)) ∧ cur[0]? = some (.int .i64 nn))) := by
 rintro s X Y row ⟨v, hv, h1, h2⟩ hg hrow
 have key : ∀ (b : Nat) (cs : Array Value) (t : Nat), X.heap[b]? = some (.cells cs t (0, 0)) → Y.heap[b]? = some (.cells cs t (0, 0)) := fun b cs t hb => (hg.block b (zbc hb) (fun e => by
  obtain ⟨o, ho, hc⟩ := hrow b e.symm
  rw [hb] at ho
  cases ho
  cases hc)).trans hb
 refine ⟨v, key _ _ _ hv, h1, fun hp => ?_⟩
 obtain ⟨g, cap, cur, e, hc, hb, hn⟩ := h2 hp
 exact ⟨g, cap, cur, e, hc, key _ _ _ hb, hn⟩
theorem ink_post {w wC W W2 : World} {B Bs cp : Nat} {nn : Int} {Z : Array Value} (hv : Boxed W2 B 24 (.slice none 0 0)) (hb : Below W.heap.size W W2) (hlt : B < W.heap.size) (hwB : w.heap.size ≤ B) (hBW : Below w.heap.size w W) (hOA : OthersAs B wC W) (hSZ : wC.heap.size ≤ W.heap.size) (hc : 1 ≤ cp) (hBs : Bs ≠ B) (hBl : Bs < W.heap.size) (K : Nat) (hv0 : Boxed W B 24 (.slice none 0 0)) :
 KeepsFrom K W ((((W2.setCell ⟨B, 0, none⟩ (.slice (some ⟨W2.heap.size + 1, 0, none⟩) 1 cp)).alloc (.cells #[.int .i64 nn] 3)).alloc (.cells (#[.int .i64 nn] ++ Z) 3)).drew) ∧
 ((((W2.setCell ⟨B, 0, none⟩ (.slice (some ⟨W2.heap.size + 1, 0, none⟩) 1 cp)).alloc (.cells #[.int .i64 nn] 3)).alloc (.cells (#[.int .i64 nn] ++ Z) 3)).drew).heap[Bs]? = W.heap[Bs]? ∧
 ((∃ v, Boxed ((((W2.setCell ⟨B, 0, none⟩ (.slice (some ⟨W2.heap.size + 1, 0, none⟩) 1 cp)).alloc (.cells #[.int .i64 nn] 3)).alloc (.cells (#[.int .i64 nn] ++ Z) 3)).drew) B 24 v ∧ (([] ++ [()] : List Unit) = [] → v = .slice none 0 0) ∧ (([] ++ [()] : List Unit) ≠ [] → ∃ g cap cur, v = .slice (some ⟨g, 0, none⟩) 1 cap ∧ 1 ≤ cap ∧ ((((W2.setCell ⟨B, 0, none⟩ (.slice (some ⟨W2.heap.size + 1, 0, none⟩) 1 cp)).alloc (.cells #[.int .i64 nn] 3)).alloc (.cells (#[.int .i64 nn] ++ Z) 3)).drew).heap[g]? = some (.cells cur 3 (0, 0)) ∧ cur[0]? = some (.int .i64 nn))) ∧ Below w.heap.size w ((((W2.setCell ⟨B, 0, none⟩ (.slice (some ⟨W2.heap.size + 1, 0, none⟩) 1 cp)).alloc (.cells #[.int .i64 nn] 3)).alloc (.cells (#[.int .i64 nn] ++ Z) 3)).drew)) ∧
 OthersAs B wC ((((W2.setCell ⟨B, 0, none⟩ (.slice (some ⟨W2.heap.size + 1, 0, none⟩) 1 cp)).alloc (.cells #[.int .i64 nn] 3)).alloc (.cells (#[.int .i64 nn] ++ Z) 3)).drew) ∧ wC.heap.size ≤ ((((W2.setCell ⟨B, 0, none⟩ (.slice (some ⟨W2.heap.size + 1, 0, none⟩) 1 cp)).alloc (.cells #[.int .i64 nn] 3)).alloc (.cells (#[.int .i64 nn] ++ Z) 3)).drew).heap.size := by
 have hB2 : B < W2.heap.size := Nat.lt_of_lt_of_le hlt hb.size
 have hkeep : ∀ k, k < W.heap.size → k ≠ B → ((((W2.setCell ⟨B, 0, none⟩ (.slice (some ⟨W2.heap.size + 1, 0, none⟩) 1 cp)).alloc (.cells #[.int .i64 nn] 3)).alloc (.cells (#[.int .i64 nn] ++ Z) 3)).drew).heap[k]? = W.heap[k]? := fun k hk hne => by
  have hk2 := Nat.lt_of_lt_of_le hk hb.size
  show (((W2.setCell ⟨B, 0, none⟩ (.slice (some ⟨W2.heap.size + 1, 0, none⟩) 1 cp)).alloc (.cells #[.int .i64 nn] 3)).alloc (.cells (#[.int .i64 nn] ++ Z) 3)).heap[k]? = W.heap[k]?
  rw [Below.heap_alloc _ _ _ (by rw [World.size_alloc, World.size_setCell]; omega), Below.heap_alloc _ _ _ (by simpa using hk2), Below.heap_setCell _ _ _ _ hne]
  exact hb.block k hk
 have hbox : ((((W2.setCell ⟨B, 0, none⟩ (.slice (some ⟨W2.heap.size + 1, 0, none⟩) 1 cp)).alloc (.cells #[.int .i64 nn] 3)).alloc (.cells (#[.int .i64 nn] ++ Z) 3)).drew).heap[B]? = some (.cells #[.slice (some ⟨W2.heap.size + 1, 0, none⟩) 1 cp] 24 (0, 0)) := by
  show (((W2.setCell ⟨B, 0, none⟩ (.slice (some ⟨W2.heap.size + 1, 0, none⟩) 1 cp)).alloc (.cells #[.int .i64 nn] 3)).alloc (.cells (#[.int .i64 nn] ++ Z) 3)).heap[B]? = _
  rw [Below.heap_alloc _ _ _ (by rw [World.size_alloc, World.size_setCell]; omega), Below.heap_alloc _ _ _ (by simpa using hB2)]
  exact blk_set hv 0 _
 have hnew : ((((W2.setCell ⟨B, 0, none⟩ (.slice (some ⟨W2.heap.size + 1, 0, none⟩) 1 cp)).alloc (.cells #[.int .i64 nn] 3)).alloc (.cells (#[.int .i64 nn] ++ Z) 3)).drew).heap[W2.heap.size + 1]? = some (.cells (#[.int .i64 nn] ++ Z) 3 (0, 0)) := by
  have := World.alloc_heap_new ((W2.setCell ⟨B, 0, none⟩ (.slice (some ⟨W2.heap.size + 1, 0, none⟩) 1 cp)).alloc (.cells #[.int .i64 nn] 3)) (.cells (#[.int .i64 nn] ++ Z) 3)
  simp only [World.size_alloc, World.size_setCell] at this
  exact this
 have hsz : W.heap.size ≤ ((((W2.setCell ⟨B, 0, none⟩ (.slice (some ⟨W2.heap.size + 1, 0, none⟩) 1 cp)).alloc (.cells #[.int .i64 nn] 3)).alloc (.cells (#[.int .i64 nn] ++ Z) 3)).drew).heap.size := by
  have := hb.size
  show _ ≤ (((W2.setCell ⟨B, 0, none⟩ (.slice (some ⟨W2.heap.size + 1, 0, none⟩) 1 cp)).alloc (.cells #[.int .i64 nn] 3)).alloc (.cells (#[.int .i64 nn] ++ Z) 3)).heap.size
  simp
  omega
 have hz0 : (#[Value.int .i64 nn] ++ Z : Array Value)[0]? = some (Value.int .i64 nn) := by
  rw [Array.getElem?_append_left (by simp)]
  rfl
 refine ⟨⟨hsz, fun k o _ hk ho => ?_⟩, hkeep Bs hBl hBs, ⟨⟨_, hbox, fun h => by simp at h, fun _ => ⟨_, cp, _, rfl, hc, hnew, hz0⟩⟩, ?_⟩, fun k hk hl => (hkeep k (by omega) hk).trans (hOA k hk hl), by omega⟩
 · have hkB : k ≠ B := fun e => by
     subst e
     rw [show W.heap[k]? = some (.cells #[.slice none 0 0] 24 (0, 0)) from hv0] at hk
     cases hk
     cases ho
   rw [hkeep k (zbc hk) hkB]
   exact hk
 · have h1 : Below w.heap.size w W2 := zma hBW hb
   have h2 := h1.setCell (p := ⟨B, 0, none⟩) hwB (.slice (some ⟨W2.heap.size + 1, 0, none⟩) 1 cp)
   have h3 := h2.alloc h2.size (.cells #[.int .i64 nn] 3)
   have h4 := h3.alloc h3.size (.cells (#[.int .i64 nn] ++ Z) 3)
   exact below_drew h4
def zuc.one (k : Nat) (p1 p2 : Int) (p3 : List (List Int)) (l0_2 : List (List Int)) (l1 : List S53) (a2 : Int) : Option (List S51 × Int) :=
 match l0_2, l1 with
 | [rows], [room] => if room.f0.f0 = 0 ∧ room.f0.f1 = 0 ∧ room.f1.f0 = 0 ∧ room.f1.f1 = 0 then (zjb.f k p1 p2 p3 rows 0 0).bind fun m => (zub.f k m).bind fun n => (zbd.f k [n]).bind fun lo => (zcd.f k [n]).bind fun hi => some ([⟨wrap64 (a2 * lo), wrap64 (a2 * hi)⟩], 0) else none
 | _, _ => none
def zuc.T13 : Bool × List (List Nat × List Nat) := (true, [([], []), ([], []), ([], []), ([2], [2]), ([1, 3], [1, 3]), ([], []), ([], []), ([6, 3], [6]), ([5, 7], [5, 7]), ([4, 8], [4, 8]), ([9], [9]), ([0, 10, 7], [0, 10]), ([11, 11, 0, 1, 2, 3, 4, 5, 6, 7, 8, 9, 10, 11], [0, 11])])
def zuc.B13 : List Nat := [0, 0, 0, 4, 14, 0, 0, 76, 236, 510, 1022, 2047, 4095]
theorem zuc.tab13 : rtab .any (opsOf Tryz.f9 13) = zuc.T13 := by kernel_rfl
theorem zuc.bits13 : waitsOk zuc.T13.2 zuc.B13 = true := by kernel_rfl
theorem zuc.info_sp : (Tryz.prog.info? 51).map (fun i => (i.zero, i.size, i.bytes)) = some (some (.agg #[(.int .i64 0), (.int .i64 0)]), 2, 16) := by kernel_rfl
theorem zuc.one_some {k : Nat} {p1 p2 : Int} {p3 : List (List Int)} {l0_2 : List (List Int)} {l1 : List S53} {a2 : Int} {r1 : List S51} {r2 : Int} (h : zuc.one k p1 p2 p3 l0_2 l1 a2 = some (r1, r2)) :
 ∃ rows m n lo hi, l0_2 = [rows] ∧ l1 = [⟨⟨0, 0⟩, ⟨0, 0⟩⟩] ∧ zjb.f k p1 p2 p3 rows 0 0 = some m ∧ zub.f k m = some n ∧ zbd.f k [n] = some lo ∧ zcd.f k [n] = some hi ∧ r1 = [⟨wrap64 (a2 * lo), wrap64 (a2 * hi)⟩] ∧ r2 = 0 := by
 unfold zuc.one at h
 split at h
 · rename_i rows room
   split at h
   · rename_i hz
     obtain ⟨m, hm, h⟩ := Option.bind_eq_some_iff.mp h
     obtain ⟨n, hn, h⟩ := Option.bind_eq_some_iff.mp h
     obtain ⟨lo, hlo, h⟩ := Option.bind_eq_some_iff.mp h
     obtain ⟨hi, hhi, h⟩ := Option.bind_eq_some_iff.mp h
     injection h with h
     injection h with h1 h2
     obtain ⟨⟨x1, x2⟩, ⟨x3, x4⟩⟩ := room
     obtain ⟨e1, e2, e3, e4⟩ := hz
     simp only at e1 e2 e3 e4
     subst e1 e2 e3 e4
     exact ⟨rows, m, n, lo, hi, rfl, rfl, hm, hn, hlo, hhi, h1.symm, h2.symm⟩
   · cases h
 · cases h
def zuc.f (k : Nat) (a0_0 : Int) (a0_1 : Int) (l0_2 : List (List Int)) (l1 : List (S53)) (a2 : Int) : Option ((List (S51)) × Int) := (print_openRooms.f k a0_0 a0_1 l0_2 l1).bind fun bt256 => (if bt256.2.2.2 = 0 then ((zxb.f 0 100000 (([a2] : List Int))).bind fun t266 => (if t266 = true then (zuc.one k bt256.1 bt256.2.1 bt256.2.2.1 l0_2 l1 a2) else none)) else none)
set_option maxHeartbeats 8000000 in
set_option maxRecDepth 100000 in
theorem zuc.calls (k : Nat) (a0_0 : Int) (a0_1 : Int) (A0_2 : Option Addr) (c0_2 : Nat) (l0_2 : List (List Int)) (A1 : Option Addr) (c1 : Nat) (l1 : List (S53)) (a2 : Int) (r1 : List (S51)) (r2 : Int) (w : World) (hr0_2 : Kd.C (Kd.slice 3 (Kd.int .i64)) w A0_2 l0_2.length l0_2) (hc0_2 : l0_2.length ≤ c0_2) (hr1 : Kd.C k53 w A1 l1.length l1) (hc1 : l1.length ≤ c1) (h : zuc.f k a0_0 a0_1 l0_2 l1 a2 = some (r1, r2)) :
 Calls Tryz.prog 9 #[.agg #[.int .i64 a0_0, .int .i64 a0_1, .slice A0_2 l0_2.length c0_2], .slice A1 l1.length c1, .int .i64 a2] w fun e w' => ∃ v0_ : Value, e = .returned (.tuple #[v0_, .int .i64 r2]) ∧ Kd.R k51 51 w' w.heap.size (fun _ => True) v0_ r1 ∧ Below w.heap.size w w' := by
 have hu40 := Tryz.underlying40
 have hu72 := Tryz.underlying72
 have hu53 := Tryz.underlying53
 have hu45 := Tryz.underlying45
 have hu51 := Tryz.underlying51
 have HR0_2 := zaa.mk hr0_2
 have HC0_2 := zaa.mk hc0_2
 clear hr0_2 hc0_2
 have HR1 := zaa.mk hr1
 have HC1 := zaa.mk hc1
 clear hr1 hc1
 have HB := zaa.mk (Below.refl w.heap.size w)
 have H : ((print_openRooms.f k a0_0 a0_1 l0_2 l1).bind fun bt256 => (if bt256.2.2.2 = 0 then ((zxb.f 0 100000 (([a2] : List Int))).bind fun t266 => (if t266 = true then (zuc.one k bt256.1 bt256.2.1 bt256.2.2.1 l0_2 l1 a2) else none)) else none)) = some (r1, r2) := h
 clear h
 replace H := Option.bind_eq_some_iff.mp H
 obtain ⟨⟨t256, t257, t258, t261⟩, A40, H⟩ := H
 replace H : (if t261 = 0 then ((zxb.f 0 100000 (([a2] : List Int))).bind fun t266 => (if t266 = true then (zuc.one k t256 t257 t258 l0_2 l1 a2) else none)) else none) = some (r1, r2) := H
 have A4 := zaa.mk A40
 clear A40
 by_cases c5 : t261 = 0
 · rw [if_pos c5] at H
   have c5b0 : (t261 == 0) = true := beq_iff_eq.mpr c5
   have c5b1 : (t261 != 0) = false := bne_eq_false_iff_eq.mpr c5
   clear c5
   obtain ⟨y263, hy263⟩ : ∃ y_ : List Int, y_ = (([a2] : List Int)) := ⟨_, rfl⟩
   replace H : ((zxb.f 0 100000 y263).bind fun t266 => (if t266 = true then (zuc.one k t256 t257 t258 l0_2 l1 a2) else none)) = some (r1, r2) := by first | (rw [hy263]; with_reducible exact H) | (have H2_ := (Option.bind_some _ _).symm.trans H; rw [hy263]; with_reducible exact H2_) | (have H2_ := (Option.bind_some _ _).symm.trans H; with_reducible exact H2_) | with_reducible exact H | (rw [hy263]; exact H) | exact H
   have Ny263 := zaa.mk hy263
   clear hy263
   replace H := Option.bind_eq_some_iff.mp H
   obtain ⟨t266, A60, H⟩ := H
   replace H : (if t266 = true then (zuc.one k t256 t257 t258 l0_2 l1 a2) else none) = some (r1, r2) := H
   have A6 := zaa.mk A60
   clear A60
   by_cases c7 : t266 = true
   · subst c7
     have H1 : (zuc.one k t256 t257 t258 l0_2 l1 a2) = some (r1, r2) := by rw [if_pos rfl] at H; exact H
     clear H
     have H := H1
     clear H1
     have H' := zaa.mk H
     clear H
     obtain ⟨rows, m, nn, lo, hi, hl0, hl1, hm, hn, hlo, hhi, hr1e, hr2e⟩ := zuc.one_some H'.out
     have HL0 := zaa.mk hl0
     have HL1 := zaa.mk hl1
     have HM := zaa.mk hm
     have HN := zaa.mk hn
     have HLO := zaa.mk hlo
     have HHI := zaa.mk hhi
     have HE := zaa.mk hr1e
     subst hr2e
     clear hl0 hl1 hm hn hlo hhi hr1e H'
     refine (callsIn_wide (n := 9)).1 ?_
     refine callsIn_of_wp_marks Tryz.func9 rfl trivial ?_ rfl
     simp only [Tryz.ntmps9, List.size_toArray, List.length_cons, List.length_nil, Nat.reduceAdd, Nat.reduceSub, Array.replicate_succ, Array.replicate_zero, List.push_toArray, List.append_toArray, List.nil_append, List.cons_append]
     refine wpIn_wide.2 ?_
     go_wp2_with (first | ((with_reducible refine zbb (N := 3) rfl ?_); refine zob ?hg (N := 3) ?hd (cs := #[.int .i64 a0_0, .int .i64 a0_1, .slice A0_2 l0_2.length c0_2]) (t := 40) ?hr ?_; (case hd => rfl); (case hg => rfl); (case hr => first | (go_simp; done) | (go_simp; rfl)); intro gb255 hg w8 hbox hb; have BK255 := zaa.mk (hbox); have GW255 := zaa.mk ((by rw [hg]; exact (zja (by repeat (first | (with_reducible first | exact HB.out | apply zda | apply zba | apply zca) | exact HB.out))) : w.heap.size ≤ gb255)); have GE255 := zaa.mk ((by rw [hg]; exact (zja (by repeat (first | (with_reducible first | exact HB.out | apply zda | apply zba | apply zca) | exact HB.out))) : w.heap.size ≤ gb255)); replace HB := zaa.mk (zma (by repeat (first | (with_reducible first | exact HB.out | apply zda | apply zba | apply zca) | exact HB.out)) hb); clear hb hbox hg; have hcz9_0 : w8.cell? ⟨gb255, 0, none⟩ = some (.int .i64 a0_0) := (zla BK255.out 0).trans rfl; have hcz9_1 : w8.cell? ⟨gb255, 1, none⟩ = some (.int .i64 a0_1) := (zla BK255.out 1).trans rfl; have hcz9_2 : w8.cell? ⟨gb255, 2, none⟩ = some (.slice A0_2 l0_2.length c0_2) := (zla BK255.out 2).trans rfl; have hfz9_0 := zka BK255.out 0; have hfz9_1 := zka BK255.out 1; have hfz9_2 := zka BK255.out 2) | ((with_reducible refine zxa (f := 24) rfl ?_); refine zhd (some 16) rfl rfl Tryz.func24 (by kernel_rfl) rfl #[.agg #[.int .i64 a0_0, .int .i64 a0_1, .slice A0_2 l0_2.length c0_2], .slice A1 l1.length c1] rfl (by (try simp only [List.map_toArray, List.map_cons, List.map_nil]); first | done | rfl | (simp only [List.length_drop, List.length_take]; rfl)) ?_; (with_reducible refine (print_openRooms.calls k a0_0 a0_1 (fun k_ => k_ < w.heap.size) _ _ l0_2 _ _ l1 t256 t257 t258 t261 _ ?side1 ?side2 ?side3 A4.out).mono ?_); (case side1 => exact Kd.V_mk HC0_2.out (Kd.F_below (Kd.C_F (Kd.heap_slice 3 (Kd.heap_int .i64)) HR0_2.out) (by repeat (first | (with_reducible first | exact HB.out | apply zda | apply zba | apply zca | refine zea ?_ GE255.out) | exact HB.out)))); (case side2 => repeat (first | exact (Kd.zkc HR1.out HB.out) | (with_reducible refine Kd.zrb ?_ _) | (with_reducible refine Kd.zqb ?_ _) | (with_reducible refine Kd.zmc ?_))); (case side3 => exact HC1.out); rintro e w10 ⟨v259, rfl, ho0, hb⟩; refine ⟨_, rfl, ?_⟩; have HO260 := zaa.mk (Kd.V_lower (Kd.zcc (ok' := fun k_ => k_ ≠ gb255) ho0 (fun k_ hk_ => Or.elim hk_ (fun hs_ => fun e_ => Nat.not_le.2 hs_ (by rw [e_]; exact GW255.out)) (fun hn_ => (Kd.freshB (g := gb255) (o := .cells #[.int .i64 a0_0, .int .i64 a0_1, .slice A0_2 l0_2.length c0_2] 40 (0, 0)) (by (with_reducible repeat (first | refine zga ?_ _ | refine zha ?_ | refine zfa ?_ _)); exact BK255.out) k_ hn_)))) (zja (by repeat (first | (with_reducible first | exact HB.out | apply zda | apply zba | apply zca | refine zea ?_ GE255.out) | exact HB.out)))); replace BK255 := zaa.mk (zna (g := gb255) (o := .cells #[.int .i64 a0_0, .int .i64 a0_1, .slice A0_2 l0_2.length c0_2] 40 (0, 0)) (by (with_reducible repeat (first | refine zga ?_ _ | refine zha ?_ | refine zfa ?_ _)); exact BK255.out) hb); replace HB := zaa.mk (zma (by repeat (first | (with_reducible first | exact HB.out | apply zda | apply zba | apply zca | refine zea ?_ GE255.out) | exact HB.out)) hb); (try clear hb); (try clear hb2); (try clear hk); (try clear hi); (try clear ho0)) | ((with_reducible refine zbb (N := 8) rfl ?_); refine zob ?hg (N := 8) ?hd (cs := #[.int .i64 0, .int .i64 0, .slice none 0 0]) (t := 72) ?hr ?_; (case hd => rfl); (case hg => rfl); (case hr => first | (go_simp; done) | (go_simp; rfl)); intro gb262 hg w11 hbox hb; replace HO260 := zaa.mk (Kd.zqc (Kd.zld (by (with_reducible repeat (first | apply Kd.zza | apply Kd.zya | apply Kd.zib)); exact HO260.out) gb262 (Nat.le_of_eq hg.symm)) hb); have BK262 := zaa.mk (hbox); have GW262 := zaa.mk ((by rw [hg]; exact (zja (by repeat (first | (with_reducible first | exact HB.out | apply zda | apply zba | apply zca | refine zea ?_ GE255.out) | exact HB.out))) : w.heap.size ≤ gb262)); have GE262 := zaa.mk ((by rw [hg]; exact (zja (by repeat (first | (with_reducible first | exact HB.out | apply zda | apply zba | apply zca | refine zea ?_ GE255.out) | exact HB.out))) : w.heap.size ≤ gb262)); replace HB := zaa.mk (zma (by repeat (first | (with_reducible first | exact HB.out | apply zda | apply zba | apply zca | refine zea ?_ GE255.out) | exact HB.out)) hb); have NB255_262 := zaa.mk ((by rw [hg]; exact Nat.ne_of_lt (zbc (g := gb255) (o := .cells #[.int .i64 a0_0, .int .i64 a0_1, .slice A0_2 l0_2.length c0_2] 40 (0, 0)) (by (with_reducible repeat (first | refine zga ?_ _ | refine zha ?_ | refine zfa ?_ _)); exact BK255.out)) : gb255 ≠ gb262)); have NB262_255 := zaa.mk ((by rw [hg]; exact Nat.ne_of_gt (zbc (g := gb255) (o := .cells #[.int .i64 a0_0, .int .i64 a0_1, .slice A0_2 l0_2.length c0_2] 40 (0, 0)) (by (with_reducible repeat (first | refine zga ?_ _ | refine zha ?_ | refine zfa ?_ _)); exact BK255.out)) : gb262 ≠ gb255)); replace BK255 := zaa.mk (zna (g := gb255) (o := .cells #[.int .i64 a0_0, .int .i64 a0_1, .slice A0_2 l0_2.length c0_2] 40 (0, 0)) (by (with_reducible repeat (first | refine zga ?_ _ | refine zha ?_ | refine zfa ?_ _)); exact BK255.out) hb); clear hb hbox hg; have hnb12 := NB262_255.out; have hnc12 := NB255_262.out; have hcz13_0 : w11.cell? ⟨gb262, 0, none⟩ = some (.int .i64 0) := (zla BK262.out 0).trans rfl; have hcz13_1 : w11.cell? ⟨gb262, 1, none⟩ = some (.int .i64 0) := (zla BK262.out 1).trans rfl; have hcz13_2 : w11.cell? ⟨gb262, 2, none⟩ = some (.slice none 0 0) := (zla BK262.out 2).trans rfl; have hfz13_0 := zka BK262.out 0; have hfz13_1 := zka BK262.out 1; have hfz13_2 := zka BK262.out 2; obtain ⟨Ao14, co14, eo14⟩ := Kd.V_slice HO260.out; subst eo14) | ((with_reducible refine zbb (N := 25) rfl ?_); refine Kd.R_lit (Kd.int .i64) _ 3 ?hg (N := 25) ?hd (xs := ([a2] : List Int)) (inner := [.int .i64 a2]) (ok := fun _ => True) (okp := fun _ => True) ?hr ?hp (fun _ hk => hk) trivial (Below.refl _ _) (Nat.le_refl _) (by simp) ?_; (case hd => rfl); (case hg => rfl); (case hr => first | (go_simp; done) | (go_simp; rfl)); (case hp => exact (Reps.one (show Kd.M (Kd.int .i64) _ _ _ a2 [.int .i64 a2] from rfl) (Reps.none _ _))); intro v264 w15 ho16 hb hg_ hnew_; clear hg_ hnew_; (first | rw [← Ny263.out] at ho16 | (simp only [Int.reduceToNat] at ho16; rw [← Ny263.out] at ho16)); replace HO260 := zaa.mk (Kd.V_elder' (by (with_reducible repeat (first | apply Kd.zza | apply Kd.zya | apply Kd.zib)); exact (Kd.zcc (Kd.zbe (p := ⟨gb262, 2, none⟩) (Kd.zbe (p := ⟨gb262, 1, none⟩) (Kd.zbe (p := ⟨gb262, 0, none⟩) (Kd.zcc HO260.out (fun k_ hk => (⟨hk, hk.2⟩ : _ ∧ k_ ≠ gb262))) (fun _ hk => hk.2) (.int .i64 t256)) (fun _ hk => hk.2) (.int .i64 t257)) (fun _ hk => hk.2) (.slice Ao14 t258.length co14)) (fun _ h_ => h_.1))) (Kd.zxd ho16) hb); have HO265 := zaa.mk (Kd.znd ho16 (zja (by repeat (first | (with_reducible first | exact HB.out | apply zda | apply zba | apply zca | refine zea ?_ GE255.out | refine zea ?_ GE262.out) | exact HB.out)))); replace BK255 := zaa.mk (zna (g := gb255) (o := .cells #[.int .i64 a0_0, .int .i64 a0_1, .slice A0_2 l0_2.length c0_2] 40 (0, 0)) (by (with_reducible repeat (first | refine zga ?_ _ | refine zha ?_ | refine zfa ?_ _)); refine zsc ?_ NB255_262.out _; (with_reducible repeat (first | refine zga ?_ _ | refine zha ?_ | refine zfa ?_ _)); refine zsc ?_ NB255_262.out _; (with_reducible repeat (first | refine zga ?_ _ | refine zha ?_ | refine zfa ?_ _)); refine zsc ?_ NB255_262.out _; (with_reducible repeat (first | refine zga ?_ _ | refine zha ?_ | refine zfa ?_ _)); exact BK255.out) hb); replace BK262 := zaa.mk (zna (g := gb262) (o := .cells #[.int .i64 t256, .int .i64 t257, .slice Ao14 t258.length co14] 72 (0, 0)) (by (with_reducible repeat (first | refine zga ?_ _ | refine zha ?_ | refine zfa ?_ _)); refine zzc (cs := #[.int .i64 t256, .int .i64 t257, .slice none 0 0]) ?_ 2 _ rfl; (with_reducible repeat (first | refine zga ?_ _ | refine zha ?_ | refine zfa ?_ _)); refine zzc (cs := #[.int .i64 t256, .int .i64 0, .slice none 0 0]) ?_ 1 _ rfl; (with_reducible repeat (first | refine zga ?_ _ | refine zha ?_ | refine zfa ?_ _)); refine zzc (cs := #[.int .i64 0, .int .i64 0, .slice none 0 0]) ?_ 0 _ rfl; (with_reducible repeat (first | refine zga ?_ _ | refine zha ?_ | refine zfa ?_ _)); exact BK262.out) hb); replace HB := zaa.mk (zma (by repeat (first | (with_reducible first | exact HB.out | apply zda | apply zba | apply zca | refine zea ?_ GE255.out | refine zea ?_ GE262.out) | exact HB.out)) hb); clear hb ho16; obtain ⟨Ao17, co17, eo17⟩ := Kd.zfd HO265.out; subst eo17) | ((with_reducible refine zxa (f := 25) rfl ?_); refine zhd (some 26) rfl rfl Tryz.func25 (by kernel_rfl) rfl #[.int .i64 0, .int .i64 100000, .slice Ao17 y263.length co17] rfl (by (try simp only [List.map_toArray, List.map_cons, List.map_nil]); first | done | rfl | (simp only [List.length_drop, List.length_take]; rfl)) ?_; (with_reducible refine (zxb.calls 0 100000 _ _ y263 true _ ?side1 ?side2 A6.out).mono ?_); (case side1 => repeat (first | exact (Kd.zgb HO265.out).2.2 | (with_reducible refine Kd.zrb ?_ _) | (with_reducible refine Kd.zqb ?_ _) | (with_reducible refine Kd.zmc ?_))); (case side2 => exact (Kd.zgb HO265.out).2.1); rintro e w18 ⟨rfl, hb⟩; refine ⟨_, rfl, ?_⟩; replace HO260 := zaa.mk (Kd.zqc (by (with_reducible repeat (first | apply Kd.zza | apply Kd.zya | apply Kd.zib)); exact HO260.out) hb); replace HO265 := zaa.mk (Kd.zcb (by (with_reducible repeat (first | apply Kd.zqa | apply Kd.zpa | apply Kd.zsa)); exact HO265.out) hb); replace BK255 := zaa.mk (zna (g := gb255) (o := .cells #[.int .i64 a0_0, .int .i64 a0_1, .slice A0_2 l0_2.length c0_2] 40 (0, 0)) (by (with_reducible repeat (first | refine zga ?_ _ | refine zha ?_ | refine zfa ?_ _)); exact BK255.out) hb); replace BK262 := zaa.mk (zna (g := gb262) (o := .cells #[.int .i64 t256, .int .i64 t257, .slice Ao14 t258.length co14] 72 (0, 0)) (by (with_reducible repeat (first | refine zga ?_ _ | refine zha ?_ | refine zfa ?_ _)); exact BK262.out) hb); replace HB := zaa.mk (zma (by repeat (first | (with_reducible first | exact HB.out | apply zda | apply zba | apply zca | refine zea ?_ GE255.out | refine zea ?_ GE262.out) | exact HB.out)) hb); (try clear hb); (try clear hb2); (try clear hk); (try clear hi); have hcz19_0 : w18.cell? ⟨gb255, 0, none⟩ = some (.int .i64 a0_0) := (zla BK255.out 0).trans rfl; have hcz19_1 : w18.cell? ⟨gb255, 1, none⟩ = some (.int .i64 a0_1) := (zla BK255.out 1).trans rfl; have hcz19_2 : w18.cell? ⟨gb255, 2, none⟩ = some (.slice A0_2 l0_2.length c0_2) := (zla BK255.out 2).trans rfl; have hfz19_0 := zka BK255.out 0; have hfz19_1 := zka BK255.out 1; have hfz19_2 := zka BK255.out 2))
     have hlen0 : l0_2.length = 1 := by rw [HL0.out]; rfl
     have hlen1 : l1.length = 1 := by rw [HL1.out]; rfl
     have hrw : ∀ h : 0 < l0_2.length, l0_2[0] = rows := by intro h; simp [HL0.out]
     obtain ⟨ad0, A9, c9, e0, hx, hc9, hr9⟩ := at_nat_sl_int (Kd.zkc HR0_2.out HB.out) 0 (by omega)
     rw [hrw] at hx hc9 hr9
     have HC9 := zaa.mk hc9
     have HR9 := zaa.mk hr9
     obtain ⟨ad1, e1, hy0, hy1, hy2, hy3⟩ := at_T53 (Kd.zkc HR1.out HB.out) 0 (by omega) (by omega)
     have hz : rd_T53 l1 0 = ⟨⟨0, 0⟩, ⟨0, 0⟩⟩ := by rw [HL1.out]; rfl
     rw [hz] at hy0 hy1 hy2 hy3
     subst e0 e1
     have HZ := zaa.mk hz
     clear hc9 hr9 hz hrw
     have had : ∀ a : Addr, a.add 0 = a := fun a => by simp [Addr.add]
     simp [had] at hx hy0 hy1 hy2 hy3
     have HADD := zaa.mk had
     clear had
     have hq0 : decide ((0 : Int) < (l0_2.length : Int)) = true := decide_eq_true (by omega)
     have hq1 : decide ((1 : Int) < (l0_2.length : Int)) = false := decide_eq_false (by omega)
     have hq2 : (0 : Int) < (l0_2.length : Int) := by omega
     have hq3 : (0 : Int) < (l1.length : Int) := by omega
     refine wp_loop_rounds 2 ?_
     rw [rounds_succ]
     go_wp2_with (first | ((with_reducible refine zbb (N := 10) rfl ?_); refine zob ?hg (N := 10) ?hd (cs := #[.slice none 0 0]) (t := 24) ?hr ?_; (case hd => rfl); (case hg => rfl); (case hr => first | (go_simp; done) | (go_simp; rfl)); intro gb10 hg10 wA hboxA hbA; have HBA := zaa.mk hbA; have HG10 := zaa.mk hg10; have HX10 := zaa.mk hboxA; clear hbA hg10 hboxA; have hcA := zla HX10.out 0; have hfA := zka HX10.out 0; simp at hcA) | ((with_reducible refine zbb (N := 11) rfl ?_); refine zob ?hg (N := 11) ?hd (cs := #[.slice none 0 0]) (t := 24) ?hr ?_; (case hd => rfl); (case hg => rfl); (case hr => first | (go_simp; done) | (go_simp; rfl)); intro gb11 hg11 wB hboxB hbB; have HBW := zaa.mk (zma ((zma HB.out HBA.out).setCell (p := ⟨gb10, 0, none⟩) (by have := zja HB.out; rw [HG10.out]; exact this) _) hbB); have HBB := zaa.mk hbB; have HG11 := zaa.mk hg11; have HX11 := zaa.mk hboxB; clear hbB hg11 hboxB; obtain ⟨ad2, e2, hw0, hw1, hw2, hw3⟩ := at_T53 (Kd.zkc HR1.out HBW.out) 0 (by omega) (by omega); injection e2 with e2; subst e2; rw [HZ.out] at hw0 hw1 hw2 hw3; simp [HADD.out] at hw0 hw1 hw2 hw3) | (go_at_call 26; refine (callsIn_wide.1 (print_shifts.zero 1 _)).mono ?_; rintro e wC ⟨rfl, hwC⟩; have HWC := zaa.mk hwC; clear hwC))
     have hWC := HWC.out
     have HBsz : w18.heap.size ≤ gb10 ∧ gb10 < gb11 ∧ gb11 < wB.heap.size := by
      have h1 := zbc HX10.out
      have h2 := zbc HX11.out
      have h3 := HG10.out
      have h4 := HG11.out
      simp at h4
      omega
     have hszB : wB.heap.size + 1 = wC.heap.size := by rw [hWC, World.size_alloc]
     have BKs : zaa (wC.heap[wB.heap.size]? = some (.cells #[.int .i64 0, .int .i64 0, .int .i64 0, .int .i64 0] 53 (0, 0))) := ⟨by rw [hWC]; exact World.alloc_heap_new _ _⟩
     have hCB : ∀ k, k < wB.heap.size → wC.heap[k]? = wB.heap[k]? := fun k hk => by rw [hWC]; exact Below.heap_alloc _ _ _ hk
     have hW18 : ∀ k, k < w18.heap.size → wC.heap[k]? = w18.heap[k]? := fun k hk => by
      have hk1 : k < wA.heap.size := Nat.lt_of_lt_of_le hk HBA.out.size
      have h1 := HBB.out.block k (by simpa using hk1)
      rw [hCB k (Nat.lt_of_lt_of_le (by simpa using hk1) HBB.out.size), h1, Below.heap_setCell _ _ _ _ (by have := HBsz.1; simp; omega)]
      exact HBA.out.block k hk
     have BKj : zaa (wC.heap[gb262]? = some (.cells #[.int .i64 t256, .int .i64 t257, .slice Ao14 t258.length co14] 72 (0, 0))) := ⟨(hW18 _ (zbc BK262.out)).trans BK262.out⟩
     have BK10 : zaa (wC.heap[gb10]? = some (.cells #[.slice A9 rows.length c9] 24 (0, 0))) := ⟨by
      rw [hCB gb10 (by omega), HBB.out.block gb10 (by simpa using zbc HX10.out)]
      exact blk_set HX10.out 0 _⟩
     have BK11 : zaa (wC.heap[gb11]? = some (.cells #[.slice none 0 0] 24 (0, 0))) := ⟨(hCB gb11 (by omega)).trans HX11.out⟩
     have HBC : zaa (Below w.heap.size w wC) := ⟨by rw [hWC]; exact HBW.out.alloc HBW.out.size _⟩
     have HVC : zaa (∀ W : World, OthersAs gb11 wC W → wC.heap.size ≤ W.heap.size → Kd.C (Kd.slice 3 (Kd.int .i64)) W Ao14 t258.length t258) := ⟨fun W ho hs => by
      refine Kd.V_F HO260.out W (fun k hk hl => ?_)
      rw [ho k (by omega) (by have := HBA.out.size; omega), hW18 k hl]⟩
     clear hcz9_0 hcz9_1 hcz9_2 hfz9_0 hfz9_1 hfz9_2 hcz13_0 hcz13_1 hcz13_2 hfz13_0 hfz13_1 hfz13_2 hcz19_0 hcz19_1 hcz19_2 hfz19_0 hfz19_1 hfz19_2 hcA hfA
     clear hWC
     refine (wpIn_wide (n := 9)).1 ?_
     refine wpIn_rangeFunc_ownH (n := 9) rfl (by omega) (gf := 46) (lb := #[.pointer (some ⟨wB.heap.size, 0, none⟩)]) rfl trivial (enters_of Tryz.func46 (by kernel_rfl) rfl) (print_shifts_1.stops 8 (by omega) wB.heap.size wC BKs.out)
      (fun {_ _ _} h1 h2 => h2.trans h1) (fun W l o o' hl _ _ _ => World.putObj_heap_other (fun e => by omega)) (Below.refl _ _) (fun _ => rfl)
      (fun pre W => ((∃ v, Boxed W gb11 24 v ∧ (pre = [] → v = .slice none 0 0) ∧ (pre ≠ [] → ∃ g cap cur, v = .slice (some ⟨g, 0, none⟩) 1 cap ∧ 1 ≤ cap ∧ W.heap[g]? = some (.cells cur 3 (0, 0)) ∧ cur[0]? = some (.int .i64 nn))) ∧ Below w.heap.size w W) ∧ (OthersAs gb11 wC W ∧ wC.heap.size ≤ W.heap.size))
      (fun _ _ _ => False)
      (OwnFrom.and (OwnFrom.and (Own.from (ink_own gb11 nn) _) (ownFrom_below (Nat.le_refl _) (by have := HBC.out.size; omega))) (othersAs_own gb11 wC))
      (fun _ _ _ _ _ hs _ _ => hs)
      ⟨⟨⟨_, BK11.out, fun _ => rfl, fun h => absurd rfl h⟩, HBC.out⟩, OthersAs.refl _ _, Nat.le_refl _⟩
      (fun _ a' W => ∃ Bx, wC.heap.size ≤ Bx ∧ W.heap[Bx]? = some (.cells #[.int .i64 0, .int .i64 0] 45 (0, 0)) ∧ a' = { tmps := #[Value.agg #[Value.int IntKind.i64 a0_0, Value.int IntKind.i64 a0_1, Value.slice (some ad0) 1 c0_2], Value.slice (some ad1) 1 c1, Value.int IntKind.i64 a2, Value.pointer (some ⟨gb255, 0, none⟩), undef, undef, Value.slice none 0 0, Value.int IntKind.i64 t261, Value.pointer (some ⟨gb262, 0, none⟩), Value.int IntKind.i64 0, Value.pointer (some ⟨gb10, 0, none⟩), Value.pointer (some ⟨gb11, 0, none⟩), Value.pointer (some ⟨Bx, 0, none⟩), Value.tuple #[Value.agg #[Value.int IntKind.i64 t256, Value.int IntKind.i64 t257, Value.slice Ao14 t258.length co14], Value.int IntKind.i64 t261], Value.agg #[Value.int IntKind.i64 a0_0, Value.int IntKind.i64 a0_1, Value.slice (some ad0) 1 c0_2], Value.slice (some ad1) 1 c1, Value.tuple #[Value.agg #[Value.int IntKind.i64 t256, Value.int IntKind.i64 t257, Value.slice Ao14 t258.length co14], Value.int IntKind.i64 t261], Value.agg #[Value.int IntKind.i64 t256, Value.int IntKind.i64 t257, Value.slice Ao14 t258.length co14], Value.int IntKind.i64 t261, Value.bool false, Value.int IntKind.i64 t261, Value.bool false, undef, Value.bool false, Value.int IntKind.i64 a2, Value.slice Ao17 y263.length co17, Value.bool true, Value.bool false, Value.pointer (some ⟨gb255, 2, none⟩), Value.slice (some ad0) 1 c0_2, Value.int IntKind.i64 1, Value.int IntKind.i64 0, Value.bool true, Value.int IntKind.i64 0, Value.pointer (some ad0), Value.slice A9 rows.length c9, Value.slice (some ad1) 1 c1, Value.int IntKind.i64 0, Value.pointer (some ad1), Value.agg #[Value.int IntKind.i64 0, Value.int IntKind.i64 0, Value.int IntKind.i64 0, Value.int IntKind.i64 0], Value.func (Fn.func 46) #[] #[Value.pointer (some ⟨wB.heap.size, 0, none⟩)], Value.agg #[Value.int IntKind.i64 0, Value.int IntKind.i64 0], undef, undef, undef, undef, undef, undef, undef, undef, undef, undef, undef, undef, undef, undef, undef, undef, undef, undef, undef, undef, undef, undef], defers := [] })
      (fun _ a' => Own.from (by
       rintro _ W W' row ⟨Bx, h1, h2, h3⟩ hg hr
       refine ⟨Bx, h1, ?_, h3⟩
       refine (hg.block Bx (zbc h2) (fun e => ?_)).trans h2
       obtain ⟨o, ho, hc⟩ := hr Bx e.symm
       rw [h2] at ho
       cases ho
       cases hc) _) ?assign ?body ?done ?stop
     case assign =>
      rintro l pre x W K ⟨⟨⟨v, hv, hnil, hrow⟩, hBW⟩, hOA, hSZ⟩ hK
      gi_wp2
      refine hK _ _ ((KeepsOthers.alloc _ _).from _) (Below.heap_alloc _ _ _ (by omega)) ⟨⟨⟨v, hv.alloc _, hnil, fun hp => by obtain ⟨g, cap, cur, e, hc, hb, hn⟩ := hrow hp; exact ⟨g, cap, cur, e, hc, (Below.heap_alloc _ _ _ (zbc hb)).trans hb, hn⟩⟩, hBW.alloc hBW.size _⟩, fun k hk hl => (Below.heap_alloc _ _ _ (by omega)).trans (hOA k hk hl), by simp; omega⟩ ⟨W.heap.size, hSZ, World.alloc_heap_new _ _, rfl⟩
     case body =>
      rintro l pre x a' W hl ⟨rl, hrl⟩ ⟨⟨⟨v, hv, hnil, hrow⟩, hBW⟩, hOA, hSZ⟩ ⟨Bx, hBx, hbx, rfl⟩ hlt
      have hpre : pre = [] := List.eq_nil_of_length_eq_zero (by omega)
      subst hpre
      obtain rfl := hnil rfl
      have hj : W.heap[gb262]? = some (.cells #[.int .i64 t256, .int .i64 t257, .slice Ao14 t258.length co14] 72 (0, 0)) := (hOA _ (by have := zbc BK262.out; omega) (zbc BKj.out)).trans BKj.out
      have h10 : W.heap[gb10]? = some (.cells #[.slice A9 rows.length c9] 24 (0, 0)) := (hOA _ (by omega) (zbc BK10.out)).trans BK10.out
      have k0 := zrd hj 0
      have k1 := zrd hj 1
      have k2 := zrd hj 2
      have k3 := zrd h10 0
      have k4 := zrd hbx 0
      have k5 := zrd hbx 1
      have k6 := hv.cell
      simp at k0 k1 k2 k3 k4 k5
      have hu72 := Tryz.underlying72
      have hu45 := Tryz.underlying45
      have HMV := zaa.mk (fun W1 (h1 : Kd.C (Kd.slice 3 (Kd.int .i64)) W1 Ao14 t258.length t258) (h2 : t258.length ≤ co14) (h3 : Kd.C (Kd.int .i64) W1 A9 rows.length rows) => zjb.calls k t256 t257 _ _ t258 _ _ rows 0 0 m W1 h1 h2 h3 HC9.out HM.out)
      have HCJ := zaa.mk (HVC.out W hOA hSZ)
      have HCR := zaa.mk (Kd.zkc HR9.out (show Below w18.heap.size w18 W from ⟨hBW.os.trans HB.out.os.symm, hBW.tape.trans HB.out.tape.symm, hBW.output.trans HB.out.output.symm, by omega, fun k hk => (hOA k (by omega) (by omega)).trans (hW18 k hk)⟩))
      have HLJ : zaa (t258.length ≤ co14) := ⟨(Kd.zwd HO260.out).2.1⟩
      have h17 : 1 ≤ 7 := by omega
      have h16 : 1 ≤ 6 := by omega
      have hfo : Tryz.prog.follows .mixedOrders = true := by kernel_rfl
      gi_wp2
      gi_region_with_o (first | (refine ⟨trivial, ?_⟩; gi_at_call 22; refine (CallsIn.inRound l (callsIn_wide.2 (HMV.out _ (Kd.zmc HCJ.out) HLJ.out (Kd.zmc HCR.out)))).mono ?_; rintro e W1 ⟨v1, rfl, hR1, hb1⟩; obtain ⟨Av1, cv1, rfl⟩ := Kd.zfd hR1; have HR1' := zaa.mk (Kd.zgb hR1); have HB1' := zaa.mk hb1; clear hR1; have q6 : W1.cell? ⟨gb11, 0, none⟩ = some (.slice none 0 0) := zrd ((hb1.block gb11 (zbc hv)).trans hv) 0; clear hb1) | (refine ⟨trivial, ?_⟩; gi_at_call 27; refine (CallsIn.inRound l (callsIn_wide.2 (zub.calls k _ _ m nn _ HR1'.out.2.2 HR1'.out.2.1 HN.out))).mono ?_; rintro e W2 ⟨rfl, hb2⟩; have HB2' := zaa.mk hb2.below; clear hb2; have hvb : Boxed W2 gb11 24 (.slice none 0 0) := (HB2'.out.block gb11 (Nat.lt_of_lt_of_le (zbc hv) HB1'.out.size)).trans ((HB1'.out.block gb11 (zbc hv)).trans hv); have HVB := zaa.mk hvb; clear hvb; have q6' := HVB.out.cell; have q7' := HVB.out.frozen; have q8' : gb11 < W2.heap.size := Nat.lt_of_lt_of_le (Nat.lt_of_lt_of_le (zbc hv) HB1'.out.size) HB2'.out.size; have q9' : gb11 ≠ W2.heap.size := (by omega); have q10' : gb11 ≠ W2.heap.size + 1 := (by omega)))
      all_goals gi_wp2
      all_goals dsimp only [ownPostG]
      all_goals refine ink_post (W2 := _) (cp := _) HVB.out ?_ (zbc hv) ?_ hBW hOA hSZ ?_ ?_ ?_ _ hv
      all_goals first | exact zma (zma (below_drew (Below.refl _ _)) HB1'.out) HB2'.out | (have := HBW.out.size; have := zja HB.out; omega) | (simp [Question.cut]; done)
     case done =>
      rintro D ys W hD rfl ⟨⟨⟨v, hv, hnil, hrow⟩, hBW⟩, hOA, hSZ⟩ hK
      obtain ⟨g, cap, cur, rfl, hcap, hcur, hc0⟩ := hrow (by simp)
      have k6 := hv.cell
      have HRow : zaa (Kd.C (Kd.int .i64) W (some ⟨g, 0, none⟩) 1 [nn]) := ⟨⟨rfl, by omega, fun _ => ⟨⟨g, 0, none⟩, rfl, fun q x hx => by
       rcases q with _ | q
       · simp at hx
         subst hx
         refine ⟨[.int .i64 nn], rfl, rfl, fun i u hu => ?_⟩
         rcases i with _ | i
         · simp at hu
           subst hu
           have := zla hcur 0
           rw [hc0] at this
           exact this
         · simp at hu
       · simp at hx⟩⟩⟩
      go_wp2
      have HV13 : zaa (W.drew.heap[gb11]? = some (.cells #[.slice (some ⟨g, 0, none⟩) ([nn] : List Int).length cap] 24 (0, 0))) := ⟨zha hv⟩
      have HD13 : zaa (W.drew.heap[D]? = some (.deferred (some []))) := ⟨zha hK⟩
      have HB13 : zaa (Below w.heap.size w W.drew) := ⟨zca hBW⟩
      have HR13 : zaa (Kd.C (.int .i64) W.drew (some ⟨g, 0, none⟩) ([nn] : List Int).length [nn]) := ⟨Kd.zmc HRow.out⟩
      refine Code.wp_mono (Q := fun e a_ w_ => e = .normal ∧ Exit.inBlock 2 _ .normal a_ w_) (fun e_ a_ w_ h_ => by rw [h_.1]; exact h_.2) ?_
      refine start_ (n := 13) (S := fun w' => w'.cell? ⟨gb11, 0, none⟩ = some (.slice (some ⟨g, 0, none⟩) ([nn] : List Int).length cap)) (ds := []) #[false, false, false, false, false, false, false, false, false, false, false, false, false] (by kernel_rfl) rfl rfl ((zla HV13.out 0).trans rfl) (fun hHeld => ?_); refine with_tabW zuc.tab13 zuc.bits13 (fun HT_ HW_ => ?_)
      generalize W.drew = w32 at HV13 HD13 HB13 HR13 hHeld ⊢
      refine zxc (i := 0) (N := some 50) (v := ?_) (a' := ?_) #[true, false, false, false, false, false, false, false, false, false, false, false, false] rfl rfl (zyb HT_.out (by kernel_rfl)) (fun _ _ _ h => nomatch h.1) (Or.inl ⟨by rfl, ?_⟩) ?_ ?_
      rotate_left
      · intro w'
        go_simp
        with_reducible rfl
      rotate_left
      · simp only [Act.put, List.setIfInBounds_toArray, List.set_cons_zero, List.set_cons_succ, zpb, zzb]
        rfl
      refine zxc (i := 1) (N := some 51) (v := ?_) (a' := ?_) #[true, true, false, false, false, false, false, false, false, false, false, false, false] rfl rfl (zyb HT_.out (by kernel_rfl)) (fun _ _ _ h => nomatch h.1) (Or.inl ⟨by rfl, ?_⟩) ?_ ?_
      rotate_left
      · intro w'
        go_simp
        with_reducible rfl
      rotate_left
      · simp only [Act.put, List.setIfInBounds_toArray, List.set_cons_zero, List.set_cons_succ, zpb, zzb]
        rfl
      refine zxc (i := 5) (N := some 55) (v := ?_) (a' := ?_) #[true, true, false, false, false, true, false, false, false, false, false, false, false] rfl rfl (zyb HT_.out (by kernel_rfl)) (fun _ _ _ h => nomatch h.1) (Or.inl ⟨by rfl, ?_⟩) ?_ ?_
      rotate_left
      · intro w'
        go_simp
        with_reducible rfl
      rotate_left
      · simp only [Act.put, List.setIfInBounds_toArray, List.set_cons_zero, List.set_cons_succ, zpb, zzb]
        rfl
      refine take_ (i := 2) (N := some 52) (v := ?_) (a' := ?_) #[true, true, true, false, false, true, false, false, false, false, false, false, false] rfl rfl (zge HT_.out HW_.out (by kernel_rfl)) (fun _ _ _ h => nomatch h.1) (Or.inl ⟨by rfl, ?_⟩) hHeld ?_ ?_
      rotate_left
      · intro w' s0
        go_simp
        with_reducible rfl
      rotate_left
      · simp only [Act.put, List.setIfInBounds_toArray, List.set_cons_zero, List.set_cons_succ, zpb, zzb]
        rfl
      refine take_ (i := 6) (N := some 56) (v := ?_) (a' := ?_) #[true, true, true, false, false, true, true, false, false, false, false, false, false] rfl rfl (zge HT_.out HW_.out (by kernel_rfl)) (fun _ _ _ h => nomatch h.1) (Or.inl ⟨by rfl, ?_⟩) hHeld ?_ ?_
      rotate_left
      · intro w' s0
        go_simp
        with_reducible rfl
      rotate_left
      · simp only [Act.put, List.setIfInBounds_toArray, List.set_cons_zero, List.set_cons_succ, zpb, zzb]
        rfl
      refine one_ (i := 3) (N := some 53) #[true, true, true, true, false, true, true, false, false, false, false, false, false] rfl rfl (one_of HT_.out (by kernel_rfl)) (by decide) (fun K hK => ?_)
      refine goes_ Tryz.func28 (by kernel_rfl) rfl #[.slice (some ⟨g, 0, none⟩) ([nn] : List Int).length cap] (by rfl) rfl rfl (by (try simp only [List.map_toArray, List.map_cons, List.map_nil]); first | done | rfl | (simp only [List.length_drop, List.length_take]; rfl)) ?_
      refine (zbd.calls k _ _ ([nn] : List Int) lo _ ?side1 ?side2 HLO.out).mono ?_
      (case side1 => exact HR13.out)
      (case side2 => exact hcap)
      rintro e w33 ⟨rfl, hb⟩
      refine ⟨_, rfl, ?_⟩
      have n0_ := zaa.mk (zna HV13.out hb)
      have n1_ := zaa.mk (zna HD13.out hb)
      have n2_ := zaa.mk (zma HB13.out hb)
      have n3_ := zaa.mk (Kd.zkc HR13.out hb)
      clear HV13 HD13 HB13 HR13
      have HV13 := n0_
      have HD13 := n1_
      have HB13 := n2_
      have HR13 := n3_
      clear n0_ n1_ n2_ n3_
      (try clear hb)
      (try clear hb2)
      (try clear hk)
      (try clear hi)
      refine hK.out _ _ ((zla HV13.out 0).trans rfl) (fun hHeld => ?_)
      clear hK K
      refine norm_ (a' := ?_) ?_ ?_
      rotate_left
      · show Act.put _ (some 53) _ = _
        simp only [Act.put, List.setIfInBounds_toArray, List.set_cons_zero, List.set_cons_succ, zpb, zzb]
        rfl
      refine zxc (i := 4) (N := some 54) (v := ?_) (a' := ?_) #[true, true, true, true, true, true, true, false, false, false, false, false, false] rfl rfl (zyb HT_.out (by kernel_rfl)) (fun _ _ _ h => nomatch h.1) (Or.inl ⟨by rfl, ?_⟩) ?_ ?_
      rotate_left
      · intro w'
        go_simp
        with_reducible rfl
      rotate_left
      · simp only [Act.put, List.setIfInBounds_toArray, List.set_cons_zero, List.set_cons_succ, zpb, zzb]
        rfl
      refine one_ (i := 7) (N := some 57) #[true, true, true, true, true, true, true, true, false, false, false, false, false] rfl rfl (one_of HT_.out (by kernel_rfl)) (by decide) (fun K hK => ?_)
      refine goes_ Tryz.func29 (by kernel_rfl) rfl #[.slice (some ⟨g, 0, none⟩) ([nn] : List Int).length cap] (by rfl) rfl rfl (by (try simp only [List.map_toArray, List.map_cons, List.map_nil]); first | done | rfl | (simp only [List.length_drop, List.length_take]; rfl)) ?_
      refine (zcd.calls k _ _ ([nn] : List Int) hi _ ?side1 ?side2 HHI.out).mono ?_
      (case side1 => exact HR13.out)
      (case side2 => exact hcap)
      rintro e w34 ⟨rfl, hb⟩
      refine ⟨_, rfl, ?_⟩
      have n0_ := zaa.mk (zna HV13.out hb)
      have n1_ := zaa.mk (zna HD13.out hb)
      have n2_ := zaa.mk (zma HB13.out hb)
      have n3_ := zaa.mk (Kd.zkc HR13.out hb)
      clear HV13 HD13 HB13 HR13
      have HV13 := n0_
      have HD13 := n1_
      have HB13 := n2_
      have HR13 := n3_
      clear n0_ n1_ n2_ n3_
      (try clear hb)
      (try clear hb2)
      (try clear hk)
      (try clear hi)
      refine hK.out _ _ ((zla HV13.out 0).trans rfl) (fun hHeld => ?_)
      clear hK K
      refine norm_ (a' := ?_) ?_ ?_
      rotate_left
      · show Act.put _ (some 57) _ = _
        simp only [Act.put, List.setIfInBounds_toArray, List.set_cons_zero, List.set_cons_succ, zpb, zzb]
        rfl
      refine zxc (i := 8) (N := some 58) (v := ?_) (a' := ?_) #[true, true, true, true, true, true, true, true, true, false, false, false, false] rfl rfl (zyb HT_.out (by kernel_rfl)) (fun _ _ _ h => nomatch h.1) (Or.inl ⟨by rfl, ?_⟩) ?_ ?_
      rotate_left
      · intro w'
        go_simp
        with_reducible rfl
      rotate_left
      · simp only [Act.put, List.setIfInBounds_toArray, List.set_cons_zero, List.set_cons_succ, zpb, zzb]
        rfl
      refine zxc (i := 9) (N := some 59) (v := ?_) (a' := ?_) #[true, true, true, true, true, true, true, true, true, true, false, false, false] rfl rfl (zyb HT_.out (by kernel_rfl)) (fun _ _ _ h => nomatch h.1) (Or.inl ⟨by rfl, ?_⟩) ?_ ?_
      rotate_left
      · intro w'
        go_simp
        with_reducible rfl
      rotate_left
      · simp only [Act.put, List.setIfInBounds_toArray, List.set_cons_zero, List.set_cons_succ, zpb, zzb]
        rfl
      refine one_ (i := 10) (N := some 60) #[true, true, true, true, true, true, true, true, true, true, true, false, false] rfl rfl (one_of HT_.out (by kernel_rfl)) (by decide) (fun K hK => ?_)
      refine value_ (w1 := ?_) (v := ?_) (by rfl) rfl ?_ ?_
      rotate_left 2
      · go_simp
        constructor
        · rfl
        · rfl
      refine hK.out _ _ ((zla (zfa HV13.out _) 0).trans rfl) (fun hHeld => ?_)
      clear hK K
      refine norm_ (a' := ?_) ?_ ?_
      rotate_left
      · show Act.put _ (some 60) _ = _
        simp only [Act.put, List.setIfInBounds_toArray, List.set_cons_zero, List.set_cons_succ, zpb, zzb]
        rfl
      refine one_ (i := 11) (N := some 61) #[true, true, true, true, true, true, true, true, true, true, true, true, false] rfl rfl (one_of HT_.out (by kernel_rfl)) (by decide) (fun K hK => ?_)
      refine Kd.R_append_step k51 (w0 := w) w.heap.size (by rfl) (.tmp 50) (.tmp 60) 47 51 (.agg #[(.int .i64 0), (.int .i64 0)]) 16 rfl Tryz.underlying47 zuc.info_sp rfl (by decide) (by omega) (.slice none 0 0) ([] : List S51) (⟨wrap64 (a2 * lo), wrap64 (a2 * hi)⟩ : S51) [.int .i64 (wrap64 (a2 * lo)), .int .i64 (wrap64 (a2 * hi))] (fun _ => True) (fun _ => False) rfl rfl ?aP (fun _ hk => hk.elim) ?aF ?aO ?aB ?aS ?aL ?_
      (case aP => exact k51_mkM _ _ _ (⟨wrap64 (a2 * lo), wrap64 (a2 * hi)⟩ : S51))
      (case aB => exact HB13.out)
      (case aF => exact (fun _ _ => trivial))
      (case aO => first | exact Kd.R_nil _ _ _ _ _ | exact Kd.R_nil _ _ _ _)
      (case aS => exact zja HB13.out)
      (case aL => simp)
      intro v274 w35 ho hb hg hat
      have n0_ := zaa.mk (blk_grown HV13.out hg (fun e => by cases e))
      have n1_ := zaa.mk (blk_grown HD13.out hg (fun e => by cases e))
      have n2_ := zaa.mk hb
      have n3_ := zaa.mk ho
      clear HV13 HD13 HB13
      have HV13 := n0_
      have HD13 := n1_
      have HB13 := n2_
      have HO13 := n3_
      clear n0_ n1_ n2_ n3_
      clear ho hb hg hat
      refine hK.out _ _ ((zla HV13.out 0).trans rfl) (fun hHeld => ?_)
      clear hK K
      refine norm_ (a' := ?_) ?_ ?_
      rotate_left
      · show Act.put _ (some 61) _ = _
        simp only [Act.put, List.setIfInBounds_toArray, List.set_cons_zero, List.set_cons_succ, zpb, zzb]
        rfl
      refine zxc (i := 12) (N := some 6) (v := ?_) (a' := ?_) #[true, true, true, true, true, true, true, true, true, true, true, true, true] rfl rfl (zyb HT_.out (by kernel_rfl)) (fun _ _ _ h => nomatch h.1) (Or.inl ⟨by rfl, ?_⟩) ?_ ?_
      rotate_left
      · intro w'
        go_simp
        with_reducible rfl
      rotate_left
      · simp only [Act.put, List.setIfInBounds_toArray, List.set_cons_zero, List.set_cons_succ, zpb, zzb]
        rfl
      refine done_ (done_of HT_.out (by kernel_rfl)) ?_
      refine ⟨rfl, ?_⟩
      go_wp2
      rw [rounds_succ]
      clear hHeld
      go_wp2
      have hDw : w.heap.size ≤ D := by have := HBC.out.size; omega
      refine ⟨by simp, .inl ⟨D, _, rfl, run_takeDeferred HD13.out, ?_⟩⟩
      refine ⟨_, results_tmp2 rfl _ _ _, _, rfl, ?_, ?_⟩
      · rw [HE.out]
        exact Kd.zsd (Kd.R_step (Kd.R_bound HO13.out) (fun k ho _ => World.putObj_heap_other (fun e => by
         subst e
         obtain ⟨_, _, _, q, _, cells, hc⟩ := ho
         rw [HD13.out] at hc
         cases hc))) (fun _ _ => trivial)
      · exact Below.trans HB13.out (belowK_b (Nat.le_refl _) _ D _ _ hDw HD13.out rfl rfl)
     case stop =>
      rintro D c pre W _ _ h _
      exact h.elim
   · rw [if_neg c7] at H
     cases H
 · rw [if_neg c5] at H
   cases H
end Go.Proofs.YtoacbkoenkiahaaGreat.PTopGluePlate
end
