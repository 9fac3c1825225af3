/- A part of the proof of the law TopGluePlate: whatever the input, the call returns true and its arguments read as they read before; no condition. Written by a program of this session out of its own texts and the printed ones. -/
import Derived.RangeFuncNested
import Derived.RangeFuncBound
import Derived.RangeFuncCalls
import Derived.RangeFuncLeaves
import Derived.RangeFuncBox
import Derived.OwnWalkIn
import Derived.TacticsInMore
import Derived.LoopNIn
import Derived.LoopIn
import Derived.Shelf.RegionOpen
import Derived.RangeFuncRecord
import Derived.Test.YtoacbkoenkiahaaGreatPkW1
import Derived.Test.YtoacbkoenkiahaaGreatPkX1
import Derived.Test.YtoacbkoenkiahaaGreatPkX2
import Derived.Test.YtoacbkoenkiahaaGreatPkX3
section
namespace Go.Proofs.YtoacbkoenkiahaaGreat.PTopGluePlate
open Go.RowKit Go.Proofs.YtoacbkoenkiahaaGreatW.PrintWords Go.Proofs.YtoacbkoenkiahaaGreatW.PrintLast Go.Proofs.YtoacbkoenkiahaaGreatW.PrintMore
attribute [local go_sem] znb zlb zhc zgc zeb zdb zmb zkb
set_option linter.unusedVariables false
set_option linter.unusedSimpArgs false
def glue_Explain.f (k : Nat) (a0_0 : Int) (l0_1 : List Int) (l1 : List Int) (l2 : List (S59)) : Option (Int × (List (S32)) × Int) := (glue_explained.f k a0_0 l0_1 l1 l2).bind fun bt336 => (if bt336.2.2.2 = 0 then (if 0 < (bt336.2.2.1.length : Int) then (some ((bt336.2.2.1.length : Int), rd_L2 bt336.2.2.1 0, 0)) else (none)) else (none))
set_option maxHeartbeats 8000000 in
set_option maxRecDepth 100000 in
theorem glue_Explain.calls (k : Nat) (a0_0 : Int) (P0_1_ : Nat → Prop) (A0_1 : Option Addr) (c0_1 : Nat) (l0_1 : List Int) (A1 : Option Addr) (c1 : Nat) (l1 : List Int) (A2 : Option Addr) (c2 : Nat) (l2 : List (S59)) (r1 : Int) (r2 : List (S32)) (r3 : Int) (w : World) (hs0_1 : Kd.V (Kd.int .i64) 3 w w.heap.size (fun k_ => P0_1_ k_) (.slice A0_1 l0_1.length c0_1) l0_1) (hr1 : Kd.C (Kd.int .i64) w A1 l1.length l1) (hc1 : l1.length ≤ c1) (hr2 : Kd.C k59 w A2 l2.length l2) (hc2 : l2.length ≤ c2) (h : glue_Explain.f k a0_0 l0_1 l1 l2 = some (r1, r2, r3)) :
 Calls Tryz.prog 12 #[.agg #[.int .i64 a0_0, .slice A0_1 l0_1.length c0_1], .slice A1 l1.length c1, .slice A2 l2.length c2] w fun e w' => ∃ v1_ : Value, e = .returned (.tuple #[.int .i64 r1, v1_, .int .i64 r3]) ∧ Kd.V k32 32 w' w.heap.size (fun k_ => (P0_1_ k_ ∨ w.heap.size ≤ k_)) v1_ r2 ∧ Below w.heap.size w w' := by
 have hu29 := Tryz.underlying29
 have hu66 := Tryz.underlying66
 have HO0_1 := zaa.mk (show Kd.V (Kd.int .i64) 3 w w.heap.size (fun k_ => (P0_1_ k_ ∨ w.heap.size ≤ k_)) (.slice A0_1 l0_1.length c0_1) l0_1 from Kd.zcc hs0_1 (fun k_ hk => .inl hk))
 have HR1 := zaa.mk hr1
 have HC1 := zaa.mk hc1
 clear hr1 hc1
 have HR2 := zaa.mk hr2
 have HC2 := zaa.mk hc2
 clear hr2 hc2
 have HB := zaa.mk (Below.refl w.heap.size w)
 have H : ((glue_explained.f k a0_0 l0_1 l1 l2).bind fun bt336 => (if bt336.2.2.2 = 0 then (if 0 < (bt336.2.2.1.length : Int) then (some ((bt336.2.2.1.length : Int), rd_L2 bt336.2.2.1 0, 0)) else (none)) else (none))) = some (r1, r2, r3) := h
 clear h
 replace H := Option.bind_eq_some_iff.mp H
 obtain ⟨⟨t336, t337, t340, t343⟩, A40, H⟩ := H
 replace H : (if t343 = 0 then (if 0 < (t340.length : Int) then (some ((t340.length : Int), rd_L2 t340 0, 0)) else (none)) else (none)) = some (r1, r2, r3) := H
 have A4 := zaa.mk A40
 clear A40
 by_cases c5 : t343 = 0
 · rw [if_pos c5] at H
   have c5b0 : (t343 == 0) = true := beq_iff_eq.mpr c5
   have c5b1 : (t343 != 0) = false := bne_eq_false_iff_eq.mpr c5
   clear c5
   by_cases c6 : 0 < (t340.length : Int)
   · rw [if_pos c6] at H
     have c6b0 : decide (0 < (t340.length : Int)) = true := decide_eq_true c6
     have c6b1 : decide (0 < t340.length) = true := decide_eq_true (by omega)
     clear c6
     simp only [Option.some.injEq, Prod.mk.injEq] at H
     obtain ⟨rfl, rfl, rfl⟩ := H
     go_enter Tryz.func12, Tryz.ntmps12
     go_wp2_with (first | ((with_reducible refine zbb (N := 3) rfl ?_); refine zob ?hg (N := 3) ?hd (cs := #[.int .i64 a0_0, .slice A0_1 l0_1.length c0_1]) (t := 29) ?hr ?_; (case hd => rfl); (case hg => rfl); (case hr => first | (go_simp; done) | (go_simp; rfl)); intro gb335 hg w7 hbox hb; replace HO0_1 := zaa.mk (Kd.zqc (Kd.zld (by (with_reducible repeat (first | apply Kd.zza | apply Kd.zya | apply Kd.zib)); exact HO0_1.out) gb335 (Nat.le_of_eq hg.symm)) hb); have BK335 := zaa.mk (hbox); have GW335 := zaa.mk ((by rw [hg]; exact (zja (by repeat (first | (with_reducible first | exact HB.out | apply zda | apply zba | apply zca) | exact HB.out))) : w.heap.size ≤ gb335)); have GE335 := zaa.mk ((by rw [hg]; exact (zja (by repeat (first | (with_reducible first | exact HB.out | apply zda | apply zba | apply zca) | exact HB.out))) : w.heap.size ≤ gb335)); replace HB := zaa.mk (zma (by repeat (first | (with_reducible first | exact HB.out | apply zda | apply zba | apply zca) | exact HB.out)) hb); clear hb hbox hg; have hcz8_0 : w7.cell? ⟨gb335, 0, none⟩ = some (.int .i64 a0_0) := (zla BK335.out 0).trans rfl; have hcz8_1 : w7.cell? ⟨gb335, 1, none⟩ = some (.slice A0_1 l0_1.length c0_1) := (zla BK335.out 1).trans rfl; have hfz8_0 := zka BK335.out 0; have hfz8_1 := zka BK335.out 1) | (go_at_call 30; (with_reducible refine (glue_explained.calls k a0_0 (fun k_ => ((P0_1_ k_ ∨ w.heap.size ≤ k_) ∧ k_ ≠ gb335)) _ _ l0_1 _ _ l1 _ _ l2 t336 t337 t340 t343 _ ?side1 ?side2 ?side3 ?side4 ?side5 A4.out).mono ?_); (case side1 => exact HO0_1.out); (case side2 => repeat (first | exact (Kd.zkc HR1.out HB.out) | (with_reducible refine Kd.zrb ?_ _) | (with_reducible refine Kd.zqb ?_ _) | (with_reducible refine Kd.zmc ?_))); (case side3 => exact HC1.out); (case side4 => repeat (first | exact (Kd.zkc HR2.out HB.out) | (with_reducible refine Kd.zrb ?_ _) | (with_reducible refine Kd.zqb ?_ _) | (with_reducible refine Kd.zmc ?_))); (case side5 => exact HC2.out); rintro e w9 ⟨v338, v341, rfl, ho0, ho1, hb⟩; replace HO0_1 := zaa.mk (Kd.zqc (by (with_reducible repeat (first | apply Kd.zza | apply Kd.zya | apply Kd.zib)); exact HO0_1.out) hb); have HO339 := zaa.mk (Kd.V_lower (Kd.zcc (ok' := fun k_ => (P0_1_ k_ ∨ w.heap.size ≤ k_) ∧ k_ ≠ gb335) ho0 (fun k_ hk_ => ⟨Or.elim hk_ (fun hs_ => hs_.1) (fun hn_ => (.inr (Nat.le_trans (zja (by repeat (first | (with_reducible first | exact HB.out | apply zda | apply zba | apply zca | refine zea ?_ GE335.out) | exact HB.out))) hn_))), Or.elim hk_ (fun hs_ => hs_.2) (fun hn_ => (Kd.freshB (g := gb335) (o := .cells #[.int .i64 a0_0, .slice A0_1 l0_1.length c0_1] 29 (0, 0)) (by (with_reducible repeat (first | refine zga ?_ _ | refine zha ?_ | refine zfa ?_ _)); exact BK335.out) k_ hn_))⟩)) (zja (by repeat (first | (with_reducible first | exact HB.out | apply zda | apply zba | apply zca | refine zea ?_ GE335.out) | exact HB.out)))); have HO342 := zaa.mk (Kd.V_lower (Kd.zcc (ok' := fun k_ => (P0_1_ k_ ∨ w.heap.size ≤ k_) ∧ k_ ≠ gb335) ho1 (fun k_ hk_ => ⟨Or.elim hk_ (fun hs_ => hs_.1) (fun hn_ => (.inr (Nat.le_trans (zja (by repeat (first | (with_reducible first | exact HB.out | apply zda | apply zba | apply zca | refine zea ?_ GE335.out) | exact HB.out))) hn_))), Or.elim hk_ (fun hs_ => hs_.2) (fun hn_ => (Kd.freshB (g := gb335) (o := .cells #[.int .i64 a0_0, .slice A0_1 l0_1.length c0_1] 29 (0, 0)) (by (with_reducible repeat (first | refine zga ?_ _ | refine zha ?_ | refine zfa ?_ _)); exact BK335.out) k_ hn_))⟩)) (zja (by repeat (first | (with_reducible first | exact HB.out | apply zda | apply zba | apply zca | refine zea ?_ GE335.out) | exact HB.out)))); replace BK335 := zaa.mk (zna (g := gb335) (o := .cells #[.int .i64 a0_0, .slice A0_1 l0_1.length c0_1] 29 (0, 0)) (by (with_reducible repeat (first | refine zga ?_ _ | refine zha ?_ | refine zfa ?_ _)); exact BK335.out) hb); replace HB := zaa.mk (zma (by repeat (first | (with_reducible first | exact HB.out | apply zda | apply zba | apply zca | refine zea ?_ GE335.out) | exact HB.out)) hb); (try clear hb); (try clear hb2); (try clear hk); (try clear hi); (try clear ho0); (try clear ho1)) | ((with_reducible refine zbb (N := 9) rfl ?_); refine zob ?hg (N := 9) ?hd (cs := #[.int .i64 0, .slice none 0 0]) (t := 66) ?hr ?_; (case hd => rfl); (case hg => rfl); (case hr => first | (go_simp; done) | (go_simp; rfl)); intro gb344 hg w10 hbox hb; replace HO0_1 := zaa.mk (Kd.zqc (Kd.zld (by (with_reducible repeat (first | apply Kd.zza | apply Kd.zya | apply Kd.zib)); exact HO0_1.out) gb344 (Nat.le_of_eq hg.symm)) hb); replace HO339 := zaa.mk (Kd.zqc (Kd.zld (by (with_reducible repeat (first | apply Kd.zza | apply Kd.zya | apply Kd.zib)); exact HO339.out) gb344 (Nat.le_of_eq hg.symm)) hb); replace HO342 := zaa.mk (Kd.zqc (Kd.zld (by (with_reducible repeat (first | apply Kd.zza | apply Kd.zya | apply Kd.zib)); exact HO342.out) gb344 (Nat.le_of_eq hg.symm)) hb); have BK344 := zaa.mk (hbox); have GW344 := zaa.mk ((by rw [hg]; exact (zja (by repeat (first | (with_reducible first | exact HB.out | apply zda | apply zba | apply zca | refine zea ?_ GE335.out) | exact HB.out))) : w.heap.size ≤ gb344)); have GE344 := zaa.mk ((by rw [hg]; exact (zja (by repeat (first | (with_reducible first | exact HB.out | apply zda | apply zba | apply zca | refine zea ?_ GE335.out) | exact HB.out))) : w.heap.size ≤ gb344)); replace HB := zaa.mk (zma (by repeat (first | (with_reducible first | exact HB.out | apply zda | apply zba | apply zca | refine zea ?_ GE335.out) | exact HB.out)) hb); have NB335_344 := zaa.mk ((by rw [hg]; exact Nat.ne_of_lt (zbc (g := gb335) (o := .cells #[.int .i64 a0_0, .slice A0_1 l0_1.length c0_1] 29 (0, 0)) (by (with_reducible repeat (first | refine zga ?_ _ | refine zha ?_ | refine zfa ?_ _)); exact BK335.out)) : gb335 ≠ gb344)); have NB344_335 := zaa.mk ((by rw [hg]; exact Nat.ne_of_gt (zbc (g := gb335) (o := .cells #[.int .i64 a0_0, .slice A0_1 l0_1.length c0_1] 29 (0, 0)) (by (with_reducible repeat (first | refine zga ?_ _ | refine zha ?_ | refine zfa ?_ _)); exact BK335.out)) : gb344 ≠ gb335)); replace BK335 := zaa.mk (zna (g := gb335) (o := .cells #[.int .i64 a0_0, .slice A0_1 l0_1.length c0_1] 29 (0, 0)) (by (with_reducible repeat (first | refine zga ?_ _ | refine zha ?_ | refine zfa ?_ _)); exact BK335.out) hb); clear hb hbox hg; have hnb11 := NB344_335.out; have hnc11 := NB335_344.out; have hcz12_0 : w10.cell? ⟨gb344, 0, none⟩ = some (.int .i64 0) := (zla BK344.out 0).trans rfl; have hcz12_1 : w10.cell? ⟨gb344, 1, none⟩ = some (.slice none 0 0) := (zla BK344.out 1).trans rfl; have hfz12_0 := zka BK344.out 0; have hfz12_1 := zka BK344.out 1; obtain ⟨Ao13, co13, eo13⟩ := Kd.V_slice HO339.out; subst eo13) | ((with_reducible refine gate_store (t := 66) (p := 9) rfl ?_); (try (rw [drewN_self w10]; generalize hq_ : World.drewN w10 _ = w10; have n0_ := zaa.mk (Kd.V_at hq_ HO0_1.out); have n1_ := zaa.mk (Kd.V_at hq_ HO339.out); have n2_ := zaa.mk (Kd.V_at hq_ HO342.out); have n3_ := zaa.mk (blk_at hq_ BK335.out); have n4_ := zaa.mk (blk_at hq_ BK344.out); have n5_ := zaa.mk (below_at hq_ HB.out); clear hq_ HO0_1 HO339 HO342 BK335 BK344 HB; have HO0_1 := n0_; have HO339 := n1_; have HO342 := n2_; have BK335 := n3_; have BK344 := n4_; have HB := n5_; clear n0_ n1_ n2_ n3_ n4_ n5_)); refine store_event (t := 66) (p := 9) (v := ?vo_w14) (w1 := ((w10.setCell ⟨gb344, 0, none⟩ (.int .i64 t336)).setCell ⟨gb344, 1, none⟩ (.slice Ao13 t337.length co13))) ?hg ?ho ?hn ?hr ?_; (case ho => rfl); (case hg => rfl); (case hn => rfl); (case hr => first | (go_simp; done) | (go_simp; rfl)); intro w14 hw; have n0_ : zaa (Kd.V (Kd.int .i64) 3 w14 w.heap.size (fun k_ => (P0_1_ k_ ∨ w.heap.size ≤ k_) ∧ k_ ≠ gb335 ∧ k_ ≠ gb344) (.slice A0_1 l0_1.length c0_1) l0_1) := ⟨(by rw [hw]; exact (by (with_reducible repeat (first | apply Kd.zza | apply Kd.zya | apply Kd.zib)); exact Kd.zcc (Kd.zbe (p := ⟨gb344, 1, none⟩) (Kd.zbe (p := ⟨gb344, 0, none⟩) (Kd.zcc HO0_1.out (fun k_ hk => (⟨hk, hk.2⟩ : _ ∧ k_ ≠ gb344))) (fun _ hk => hk.2) (.int .i64 t336)) (fun _ hk => hk.2) (.slice Ao13 t337.length co13)) (fun _ hk => ⟨hk.1.1.1, ⟨hk.1.1.2, hk.1.2⟩⟩)))⟩; have n1_ : zaa (Kd.V (Kd.int .i64) 3 w14 w.heap.size (fun k_ => (P0_1_ k_ ∨ w.heap.size ≤ k_) ∧ k_ ≠ gb335 ∧ k_ ≠ gb344) (.slice Ao13 t337.length co13) t337) := ⟨(by rw [hw]; exact (by (with_reducible repeat (first | apply Kd.zza | apply Kd.zya | apply Kd.zib)); exact Kd.zcc (Kd.zbe (p := ⟨gb344, 1, none⟩) (Kd.zbe (p := ⟨gb344, 0, none⟩) (Kd.zcc HO339.out (fun k_ hk => (⟨hk, hk.2⟩ : _ ∧ k_ ≠ gb344))) (fun _ hk => hk.2) (.int .i64 t336)) (fun _ hk => hk.2) (.slice Ao13 t337.length co13)) (fun _ hk => ⟨hk.1.1.1, ⟨hk.1.1.2, hk.1.2⟩⟩)))⟩; have n2_ : zaa (Kd.V (Kd.slice 32 k32) 33 w14 w.heap.size (fun k_ => (P0_1_ k_ ∨ w.heap.size ≤ k_) ∧ k_ ≠ gb335 ∧ k_ ≠ gb344) v341 t340) := ⟨(by rw [hw]; exact (by (with_reducible repeat (first | apply Kd.zza | apply Kd.zya | apply Kd.zib)); exact Kd.zcc (Kd.zbe (p := ⟨gb344, 1, none⟩) (Kd.zbe (p := ⟨gb344, 0, none⟩) (Kd.zcc HO342.out (fun k_ hk => (⟨hk, hk.2⟩ : _ ∧ k_ ≠ gb344))) (fun _ hk => hk.2) (.int .i64 t336)) (fun _ hk => hk.2) (.slice Ao13 t337.length co13)) (fun _ hk => ⟨hk.1.1.1, ⟨hk.1.1.2, hk.1.2⟩⟩)))⟩; have n3_ : zaa (w14.heap[gb335]? = some (.cells #[.int .i64 a0_0, .slice A0_1 l0_1.length c0_1] 29 (0, 0))) := ⟨(by rw [hw]; exact (by (with_reducible repeat (first | refine zga ?_ _ | refine zha ?_ | refine zfa ?_ _)); refine zsc ?_ NB335_344.out _; (with_reducible repeat (first | refine zga ?_ _ | refine zha ?_ | refine zfa ?_ _)); refine zsc ?_ NB335_344.out _; (with_reducible repeat (first | refine zga ?_ _ | refine zha ?_ | refine zfa ?_ _)); exact BK335.out))⟩; have n4_ : zaa (w14.heap[gb344]? = some (.cells #[.int .i64 t336, .slice Ao13 t337.length co13] 66 (0, 0))) := ⟨(by rw [hw]; exact (by (with_reducible repeat (first | refine zga ?_ _ | refine zha ?_ | refine zfa ?_ _)); refine zzc (cs := #[.int .i64 t336, .slice none 0 0]) ?_ 1 _ rfl; (with_reducible repeat (first | refine zga ?_ _ | refine zha ?_ | refine zfa ?_ _)); refine zzc (cs := #[.int .i64 0, .slice none 0 0]) ?_ 0 _ rfl; (with_reducible repeat (first | refine zga ?_ _ | refine zha ?_ | refine zfa ?_ _)); exact BK344.out))⟩; have n5_ : zaa (Below w.heap.size w w14) := ⟨(by rw [hw]; exact (by repeat (first | (with_reducible first | exact HB.out | apply zda | apply zba | apply zca | refine zea ?_ GE335.out | refine zea ?_ GE344.out) | exact HB.out)))⟩; clear hw; clear HO0_1; clear HO339; clear HO342; clear BK335; clear BK344; clear HB; have HO0_1 := n0_; have HO339 := n1_; have HO342 := n2_; have BK335 := n3_; have BK344 := n4_; have HB := n5_; clear n0_ n1_ n2_ n3_ n4_ n5_; obtain ⟨Ao15, co15, eo15⟩ := Kd.V_slice HO342.out; subst eo15; have p345 : 0 ≤ (0 : Int) := (by omega); have q345 : 0 < (t340.length : Int) := of_decide_eq_true (by first | (with_reducible assumption) | assumption); obtain ⟨ad345, A345_0, c345_0, e345, hx345_0, hl345_0, hi345_0⟩ := at_L2 (Kd.zwd HO342.out).2.2 0 p345 q345; cases e345; obtain ⟨ce345, hce345, hMe345, hcc345⟩ := Kd.V_get HO342.out [] 0 p345 (by first | exact q345 | exact of_decide_eq_true (by first | (with_reducible assumption) | assumption) | (have e_ := (Kd.zwd HO342.out).1; omega)); obtain ⟨ua345_0, uc345_0, rfl, ul345_0, ge345_0⟩ := Kd.FK_slice_open hMe345; have hv345_0 := hcc345 0 _ rfl; rw [Nat.add_zero, show ((Kd.slice 32 k32)).sz = 1 from rfl, Nat.mul_one] at hv345_0; replace hv345_0 := Option.some.inj (hv345_0.symm.trans hx345_0); injection hv345_0 with hva_ hvn_ hvc_; rw [hva_] at ge345_0; rw [hvc_] at ul345_0; have HL345_0 := zaa.mk (show Kd.V k32 32 _ w.heap.size _ _ (rd_L2 t340 0) from Kd.V_mk ul345_0 ge345_0); clear hva_ hvn_ hvc_ ge345_0 ul345_0; clear hcc345 hce345; have qi345 : (0 < t340.length) = True := eq_true (by omega); (try rw [show ((0 : Int)).toNat = 0 from rfl] at hx345_0); (try rw [Addr.add_zero'] at hx345_0); have HR345_0 := zaa.mk hi345_0; have HC345_0 := zaa.mk hl345_0; clear hi345_0 hl345_0; replace p345 := eq_true p345; replace q345 := eq_true q345))
     repeat (go_quiet (first | ((with_reducible refine zbb (N := 3) rfl ?_); refine zob ?hg (N := 3) ?hd (cs := #[.int .i64 a0_0, .slice A0_1 l0_1.length c0_1]) (t := 29) ?hr ?_; (case hd => rfl); (case hg => rfl); (case hr => first | (go_simp; done) | (go_simp; rfl)); intro gb335 hg w7 hbox hb; replace HO0_1 := zaa.mk (Kd.zqc (Kd.zld (by (with_reducible repeat (first | apply Kd.zza | apply Kd.zya | apply Kd.zib)); exact HO0_1.out) gb335 (Nat.le_of_eq hg.symm)) hb); have BK335 := zaa.mk (hbox); have GW335 := zaa.mk ((by rw [hg]; exact (zja (by repeat (first | (with_reducible first | exact HB.out | apply zda | apply zba | apply zca) | exact HB.out))) : w.heap.size ≤ gb335)); have GE335 := zaa.mk ((by rw [hg]; exact (zja (by repeat (first | (with_reducible first | exact HB.out | apply zda | apply zba | apply zca) | exact HB.out))) : w.heap.size ≤ gb335)); replace HB := zaa.mk (zma (by repeat (first | (with_reducible first | exact HB.out | apply zda | apply zba | apply zca) | exact HB.out)) hb); clear hb hbox hg; have hcz8_0 : w7.cell? ⟨gb335, 0, none⟩ = some (.int .i64 a0_0) := (zla BK335.out 0).trans rfl; have hcz8_1 : w7.cell? ⟨gb335, 1, none⟩ = some (.slice A0_1 l0_1.length c0_1) := (zla BK335.out 1).trans rfl; have hfz8_0 := zka BK335.out 0; have hfz8_1 := zka BK335.out 1) | (go_at_call 30; (with_reducible refine (glue_explained.calls k a0_0 (fun k_ => ((P0_1_ k_ ∨ w.heap.size ≤ k_) ∧ k_ ≠ gb335)) _ _ l0_1 _ _ l1 _ _ l2 t336 t337 t340 t343 _ ?side1 ?side2 ?side3 ?side4 ?side5 A4.out).mono ?_); (case side1 => exact HO0_1.out); (case side2 => repeat (first | exact (Kd.zkc HR1.out HB.out) | (with_reducible refine Kd.zrb ?_ _) | (with_reducible refine Kd.zqb ?_ _) | (with_reducible refine Kd.zmc ?_))); (case side3 => exact HC1.out); (case side4 => repeat (first | exact (Kd.zkc HR2.out HB.out) | (with_reducible refine Kd.zrb ?_ _) | (with_reducible refine Kd.zqb ?_ _) | (with_reducible refine Kd.zmc ?_))); (case side5 => exact HC2.out); rintro e w9 ⟨v338, v341, rfl, ho0, ho1, hb⟩; replace HO0_1 := zaa.mk (Kd.zqc (by (with_reducible repeat (first | apply Kd.zza | apply Kd.zya | apply Kd.zib)); exact HO0_1.out) hb); have HO339 := zaa.mk (Kd.V_lower (Kd.zcc (ok' := fun k_ => (P0_1_ k_ ∨ w.heap.size ≤ k_) ∧ k_ ≠ gb335) ho0 (fun k_ hk_ => ⟨Or.elim hk_ (fun hs_ => hs_.1) (fun hn_ => (.inr (Nat.le_trans (zja (by repeat (first | (with_reducible first | exact HB.out | apply zda | apply zba | apply zca | refine zea ?_ GE335.out) | exact HB.out))) hn_))), Or.elim hk_ (fun hs_ => hs_.2) (fun hn_ => (Kd.freshB (g := gb335) (o := .cells #[.int .i64 a0_0, .slice A0_1 l0_1.length c0_1] 29 (0, 0)) (by (with_reducible repeat (first | refine zga ?_ _ | refine zha ?_ | refine zfa ?_ _)); exact BK335.out) k_ hn_))⟩)) (zja (by repeat (first | (with_reducible first | exact HB.out | apply zda | apply zba | apply zca | refine zea ?_ GE335.out) | exact HB.out)))); have HO342 := zaa.mk (Kd.V_lower (Kd.zcc (ok' := fun k_ => (P0_1_ k_ ∨ w.heap.size ≤ k_) ∧ k_ ≠ gb335) ho1 (fun k_ hk_ => ⟨Or.elim hk_ (fun hs_ => hs_.1) (fun hn_ => (.inr (Nat.le_trans (zja (by repeat (first | (with_reducible first | exact HB.out | apply zda | apply zba | apply zca | refine zea ?_ GE335.out) | exact HB.out))) hn_))), Or.elim hk_ (fun hs_ => hs_.2) (fun hn_ => (Kd.freshB (g := gb335) (o := .cells #[.int .i64 a0_0, .slice A0_1 l0_1.length c0_1] 29 (0, 0)) (by (with_reducible repeat (first | refine zga ?_ _ | refine zha ?_ | refine zfa ?_ _)); exact BK335.out) k_ hn_))⟩)) (zja (by repeat (first | (with_reducible first | exact HB.out | apply zda | apply zba | apply zca | refine zea ?_ GE335.out) | exact HB.out)))); replace BK335 := zaa.mk (zna (g := gb335) (o := .cells #[.int .i64 a0_0, .slice A0_1 l0_1.length c0_1] 29 (0, 0)) (by (with_reducible repeat (first | refine zga ?_ _ | refine zha ?_ | refine zfa ?_ _)); exact BK335.out) hb); replace HB := zaa.mk (zma (by repeat (first | (with_reducible first | exact HB.out | apply zda | apply zba | apply zca | refine zea ?_ GE335.out) | exact HB.out)) hb); (try clear hb); (try clear hb2); (try clear hk); (try clear hi); (try clear ho0); (try clear ho1)) | ((with_reducible refine zbb (N := 9) rfl ?_); refine zob ?hg (N := 9) ?hd (cs := #[.int .i64 0, .slice none 0 0]) (t := 66) ?hr ?_; (case hd => rfl); (case hg => rfl); (case hr => first | (go_simp; done) | (go_simp; rfl)); intro gb344 hg w10 hbox hb; replace HO0_1 := zaa.mk (Kd.zqc (Kd.zld (by (with_reducible repeat (first | apply Kd.zza | apply Kd.zya | apply Kd.zib)); exact HO0_1.out) gb344 (Nat.le_of_eq hg.symm)) hb); replace HO339 := zaa.mk (Kd.zqc (Kd.zld (by (with_reducible repeat (first | apply Kd.zza | apply Kd.zya | apply Kd.zib)); exact HO339.out) gb344 (Nat.le_of_eq hg.symm)) hb); replace HO342 := zaa.mk (Kd.zqc (Kd.zld (by (with_reducible repeat (first | apply Kd.zza | apply Kd.zya | apply Kd.zib)); exact HO342.out) gb344 (Nat.le_of_eq hg.symm)) hb); have BK344 := zaa.mk (hbox); have GW344 := zaa.mk ((by rw [hg]; exact (zja (by repeat (first | (with_reducible first | exact HB.out | apply zda | apply zba | apply zca | refine zea ?_ GE335.out) | exact HB.out))) : w.heap.size ≤ gb344)); have GE344 := zaa.mk ((by rw [hg]; exact (zja (by repeat (first | (with_reducible first | exact HB.out | apply zda | apply zba | apply zca | refine zea ?_ GE335.out) | exact HB.out))) : w.heap.size ≤ gb344)); replace HB := zaa.mk (zma (by repeat (first | (with_reducible first | exact HB.out | apply zda | apply zba | apply zca | refine zea ?_ GE335.out) | exact HB.out)) hb); have NB335_344 := zaa.mk ((by rw [hg]; exact Nat.ne_of_lt (zbc (g := gb335) (o := .cells #[.int .i64 a0_0, .slice A0_1 l0_1.length c0_1] 29 (0, 0)) (by (with_reducible repeat (first | refine zga ?_ _ | refine zha ?_ | refine zfa ?_ _)); exact BK335.out)) : gb335 ≠ gb344)); have NB344_335 := zaa.mk ((by rw [hg]; exact Nat.ne_of_gt (zbc (g := gb335) (o := .cells #[.int .i64 a0_0, .slice A0_1 l0_1.length c0_1] 29 (0, 0)) (by (with_reducible repeat (first | refine zga ?_ _ | refine zha ?_ | refine zfa ?_ _)); exact BK335.out)) : gb344 ≠ gb335)); replace BK335 := zaa.mk (zna (g := gb335) (o := .cells #[.int .i64 a0_0, .slice A0_1 l0_1.length c0_1] 29 (0, 0)) (by (with_reducible repeat (first | refine zga ?_ _ | refine zha ?_ | refine zfa ?_ _)); exact BK335.out) hb); clear hb hbox hg; have hnb11 := NB344_335.out; have hnc11 := NB335_344.out; have hcz12_0 : w10.cell? ⟨gb344, 0, none⟩ = some (.int .i64 0) := (zla BK344.out 0).trans rfl; have hcz12_1 : w10.cell? ⟨gb344, 1, none⟩ = some (.slice none 0 0) := (zla BK344.out 1).trans rfl; have hfz12_0 := zka BK344.out 0; have hfz12_1 := zka BK344.out 1; obtain ⟨Ao13, co13, eo13⟩ := Kd.V_slice HO339.out; subst eo13) | ((with_reducible refine gate_store (t := 66) (p := 9) rfl ?_); (try (rw [drewN_self w10]; generalize hq_ : World.drewN w10 _ = w10; have n0_ := zaa.mk (Kd.V_at hq_ HO0_1.out); have n1_ := zaa.mk (Kd.V_at hq_ HO339.out); have n2_ := zaa.mk (Kd.V_at hq_ HO342.out); have n3_ := zaa.mk (blk_at hq_ BK335.out); have n4_ := zaa.mk (blk_at hq_ BK344.out); have n5_ := zaa.mk (below_at hq_ HB.out); clear hq_ HO0_1 HO339 HO342 BK335 BK344 HB; have HO0_1 := n0_; have HO339 := n1_; have HO342 := n2_; have BK335 := n3_; have BK344 := n4_; have HB := n5_; clear n0_ n1_ n2_ n3_ n4_ n5_)); refine store_event (t := 66) (p := 9) (v := ?vo_w14) (w1 := ((w10.setCell ⟨gb344, 0, none⟩ (.int .i64 t336)).setCell ⟨gb344, 1, none⟩ (.slice Ao13 t337.length co13))) ?hg ?ho ?hn ?hr ?_; (case ho => rfl); (case hg => rfl); (case hn => rfl); (case hr => first | (go_simp; done) | (go_simp; rfl)); intro w14 hw; have n0_ : zaa (Kd.V (Kd.int .i64) 3 w14 w.heap.size (fun k_ => (P0_1_ k_ ∨ w.heap.size ≤ k_) ∧ k_ ≠ gb335 ∧ k_ ≠ gb344) (.slice A0_1 l0_1.length c0_1) l0_1) := ⟨(by rw [hw]; exact (by (with_reducible repeat (first | apply Kd.zza | apply Kd.zya | apply Kd.zib)); exact Kd.zcc (Kd.zbe (p := ⟨gb344, 1, none⟩) (Kd.zbe (p := ⟨gb344, 0, none⟩) (Kd.zcc HO0_1.out (fun k_ hk => (⟨hk, hk.2⟩ : _ ∧ k_ ≠ gb344))) (fun _ hk => hk.2) (.int .i64 t336)) (fun _ hk => hk.2) (.slice Ao13 t337.length co13)) (fun _ hk => ⟨hk.1.1.1, ⟨hk.1.1.2, hk.1.2⟩⟩)))⟩; have n1_ : zaa (Kd.V (Kd.int .i64) 3 w14 w.heap.size (fun k_ => (P0_1_ k_ ∨ w.heap.size ≤ k_) ∧ k_ ≠ gb335 ∧ k_ ≠ gb344) (.slice Ao13 t337.length co13) t337) := ⟨(by rw [hw]; exact (by (with_reducible repeat (first | apply Kd.zza | apply Kd.zya | apply Kd.zib)); exact Kd.zcc (Kd.zbe (p := ⟨gb344, 1, none⟩) (Kd.zbe (p := ⟨gb344, 0, none⟩) (Kd.zcc HO339.out (fun k_ hk => (⟨hk, hk.2⟩ : _ ∧ k_ ≠ gb344))) (fun _ hk => hk.2) (.int .i64 t336)) (fun _ hk => hk.2) (.slice Ao13 t337.length co13)) (fun _ hk => ⟨hk.1.1.1, ⟨hk.1.1.2, hk.1.2⟩⟩)))⟩; have n2_ : zaa (Kd.V (Kd.slice 32 k32) 33 w14 w.heap.size (fun k_ => (P0_1_ k_ ∨ w.heap.size ≤ k_) ∧ k_ ≠ gb335 ∧ k_ ≠ gb344) v341 t340) := ⟨(by rw [hw]; exact (by (with_reducible repeat (first | apply Kd.zza | apply Kd.zya | apply Kd.zib)); exact Kd.zcc (Kd.zbe (p := ⟨gb344, 1, none⟩) (Kd.zbe (p := ⟨gb344, 0, none⟩) (Kd.zcc HO342.out (fun k_ hk => (⟨hk, hk.2⟩ : _ ∧ k_ ≠ gb344))) (fun _ hk => hk.2) (.int .i64 t336)) (fun _ hk => hk.2) (.slice Ao13 t337.length co13)) (fun _ hk => ⟨hk.1.1.1, ⟨hk.1.1.2, hk.1.2⟩⟩)))⟩; have n3_ : zaa (w14.heap[gb335]? = some (.cells #[.int .i64 a0_0, .slice A0_1 l0_1.length c0_1] 29 (0, 0))) := ⟨(by rw [hw]; exact (by (with_reducible repeat (first | refine zga ?_ _ | refine zha ?_ | refine zfa ?_ _)); refine zsc ?_ NB335_344.out _; (with_reducible repeat (first | refine zga ?_ _ | refine zha ?_ | refine zfa ?_ _)); refine zsc ?_ NB335_344.out _; (with_reducible repeat (first | refine zga ?_ _ | refine zha ?_ | refine zfa ?_ _)); exact BK335.out))⟩; have n4_ : zaa (w14.heap[gb344]? = some (.cells #[.int .i64 t336, .slice Ao13 t337.length co13] 66 (0, 0))) := ⟨(by rw [hw]; exact (by (with_reducible repeat (first | refine zga ?_ _ | refine zha ?_ | refine zfa ?_ _)); refine zzc (cs := #[.int .i64 t336, .slice none 0 0]) ?_ 1 _ rfl; (with_reducible repeat (first | refine zga ?_ _ | refine zha ?_ | refine zfa ?_ _)); refine zzc (cs := #[.int .i64 0, .slice none 0 0]) ?_ 0 _ rfl; (with_reducible repeat (first | refine zga ?_ _ | refine zha ?_ | refine zfa ?_ _)); exact BK344.out))⟩; have n5_ : zaa (Below w.heap.size w w14) := ⟨(by rw [hw]; exact (by repeat (first | (with_reducible first | exact HB.out | apply zda | apply zba | apply zca | refine zea ?_ GE335.out | refine zea ?_ GE344.out) | exact HB.out)))⟩; clear hw; clear HO0_1; clear HO339; clear HO342; clear BK335; clear BK344; clear HB; have HO0_1 := n0_; have HO339 := n1_; have HO342 := n2_; have BK335 := n3_; have BK344 := n4_; have HB := n5_; clear n0_ n1_ n2_ n3_ n4_ n5_; obtain ⟨Ao15, co15, eo15⟩ := Kd.V_slice HO342.out; subst eo15; have p345 : 0 ≤ (0 : Int) := (by omega); have q345 : 0 < (t340.length : Int) := of_decide_eq_true (by first | (with_reducible assumption) | assumption); obtain ⟨ad345, A345_0, c345_0, e345, hx345_0, hl345_0, hi345_0⟩ := at_L2 (Kd.zwd HO342.out).2.2 0 p345 q345; cases e345; obtain ⟨ce345, hce345, hMe345, hcc345⟩ := Kd.V_get HO342.out [] 0 p345 (by first | exact q345 | exact of_decide_eq_true (by first | (with_reducible assumption) | assumption) | (have e_ := (Kd.zwd HO342.out).1; omega)); obtain ⟨ua345_0, uc345_0, rfl, ul345_0, ge345_0⟩ := Kd.FK_slice_open hMe345; have hv345_0 := hcc345 0 _ rfl; rw [Nat.add_zero, show ((Kd.slice 32 k32)).sz = 1 from rfl, Nat.mul_one] at hv345_0; replace hv345_0 := Option.some.inj (hv345_0.symm.trans hx345_0); injection hv345_0 with hva_ hvn_ hvc_; rw [hva_] at ge345_0; rw [hvc_] at ul345_0; have HL345_0 := zaa.mk (show Kd.V k32 32 _ w.heap.size _ _ (rd_L2 t340 0) from Kd.V_mk ul345_0 ge345_0); clear hva_ hvn_ hvc_ ge345_0 ul345_0; clear hcc345 hce345; have qi345 : (0 < t340.length) = True := eq_true (by omega); (try rw [show ((0 : Int)).toNat = 0 from rfl] at hx345_0); (try rw [Addr.add_zero'] at hx345_0); have HR345_0 := zaa.mk hi345_0; have HC345_0 := zaa.mk hl345_0; clear hi345_0 hl345_0; replace p345 := eq_true p345; replace q345 := eq_true q345)); try go_wp2_with (first | ((with_reducible refine zbb (N := 3) rfl ?_); refine zob ?hg (N := 3) ?hd (cs := #[.int .i64 a0_0, .slice A0_1 l0_1.length c0_1]) (t := 29) ?hr ?_; (case hd => rfl); (case hg => rfl); (case hr => first | (go_simp; done) | (go_simp; rfl)); intro gb335 hg w7 hbox hb; replace HO0_1 := zaa.mk (Kd.zqc (Kd.zld (by (with_reducible repeat (first | apply Kd.zza | apply Kd.zya | apply Kd.zib)); exact HO0_1.out) gb335 (Nat.le_of_eq hg.symm)) hb); have BK335 := zaa.mk (hbox); have GW335 := zaa.mk ((by rw [hg]; exact (zja (by repeat (first | (with_reducible first | exact HB.out | apply zda | apply zba | apply zca) | exact HB.out))) : w.heap.size ≤ gb335)); have GE335 := zaa.mk ((by rw [hg]; exact (zja (by repeat (first | (with_reducible first | exact HB.out | apply zda | apply zba | apply zca) | exact HB.out))) : w.heap.size ≤ gb335)); replace HB := zaa.mk (zma (by repeat (first | (with_reducible first | exact HB.out | apply zda | apply zba | apply zca) | exact HB.out)) hb); clear hb hbox hg; have hcz8_0 : w7.cell? ⟨gb335, 0, none⟩ = some (.int .i64 a0_0) := (zla BK335.out 0).trans rfl; have hcz8_1 : w7.cell? ⟨gb335, 1, none⟩ = some (.slice A0_1 l0_1.length c0_1) := (zla BK335.out 1).trans rfl; have hfz8_0 := zka BK335.out 0; have hfz8_1 := zka BK335.out 1) | (go_at_call 30; (with_reducible refine (glue_explained.calls k a0_0 (fun k_ => ((P0_1_ k_ ∨ w.heap.size ≤ k_) ∧ k_ ≠ gb335)) _ _ l0_1 _ _ l1 _ _ l2 t336 t337 t340 t343 _ ?side1 ?side2 ?side3 ?side4 ?side5 A4.out).mono ?_); (case side1 => exact HO0_1.out); (case side2 => repeat (first | exact (Kd.zkc HR1.out HB.out) | (with_reducible refine Kd.zrb ?_ _) | (with_reducible refine Kd.zqb ?_ _) | (with_reducible refine Kd.zmc ?_))); (case side3 => exact HC1.out); (case side4 => repeat (first | exact (Kd.zkc HR2.out HB.out) | (with_reducible refine Kd.zrb ?_ _) | (with_reducible refine Kd.zqb ?_ _) | (with_reducible refine Kd.zmc ?_))); (case side5 => exact HC2.out); rintro e w9 ⟨v338, v341, rfl, ho0, ho1, hb⟩; replace HO0_1 := zaa.mk (Kd.zqc (by (with_reducible repeat (first | apply Kd.zza | apply Kd.zya | apply Kd.zib)); exact HO0_1.out) hb); have HO339 := zaa.mk (Kd.V_lower (Kd.zcc (ok' := fun k_ => (P0_1_ k_ ∨ w.heap.size ≤ k_) ∧ k_ ≠ gb335) ho0 (fun k_ hk_ => ⟨Or.elim hk_ (fun hs_ => hs_.1) (fun hn_ => (.inr (Nat.le_trans (zja (by repeat (first | (with_reducible first | exact HB.out | apply zda | apply zba | apply zca | refine zea ?_ GE335.out) | exact HB.out))) hn_))), Or.elim hk_ (fun hs_ => hs_.2) (fun hn_ => (Kd.freshB (g := gb335) (o := .cells #[.int .i64 a0_0, .slice A0_1 l0_1.length c0_1] 29 (0, 0)) (by (with_reducible repeat (first | refine zga ?_ _ | refine zha ?_ | refine zfa ?_ _)); exact BK335.out) k_ hn_))⟩)) (zja (by repeat (first | (with_reducible first | exact HB.out | apply zda | apply zba | apply zca | refine zea ?_ GE335.out) | exact HB.out)))); have HO342 := zaa.mk (Kd.V_lower (Kd.zcc (ok' := fun k_ => (P0_1_ k_ ∨ w.heap.size ≤ k_) ∧ k_ ≠ gb335) ho1 (fun k_ hk_ => ⟨Or.elim hk_ (fun hs_ => hs_.1) (fun hn_ => (.inr (Nat.le_trans (zja (by repeat (first | (with_reducible first | exact HB.out | apply zda | apply zba | apply zca | refine zea ?_ GE335.out) | exact HB.out))) hn_))), Or.elim hk_ (fun hs_ => hs_.2) (fun hn_ => (Kd.freshB (g := gb335) (o := .cells #[.int .i64 a0_0, .slice A0_1 l0_1.length c0_1] 29 (0, 0)) (by (with_reducible repeat (first | refine zga ?_ _ | refine zha ?_ | refine zfa ?_ _)); exact BK335.out) k_ hn_))⟩)) (zja (by repeat (first | (with_reducible first | exact HB.out | apply zda | apply zba | apply zca | refine zea ?_ GE335.out) | exact HB.out)))); replace BK335 := zaa.mk (zna (g := gb335) (o := .cells #[.int .i64 a0_0, .slice A0_1 l0_1.length c0_1] 29 (0, 0)) (by (with_reducible repeat (first | refine zga ?_ _ | refine zha ?_ | refine zfa ?_ _)); exact BK335.out) hb); replace HB := zaa.mk (zma (by repeat (first | (with_reducible first | exact HB.out | apply zda | apply zba | apply zca | refine zea ?_ GE335.out) | exact HB.out)) hb); (try clear hb); (try clear hb2); (try clear hk); (try clear hi); (try clear ho0); (try clear ho1)) | ((with_reducible refine zbb (N := 9) rfl ?_); refine zob ?hg (N := 9) ?hd (cs := #[.int .i64 0, .slice none 0 0]) (t := 66) ?hr ?_; (case hd => rfl); (case hg => rfl); (case hr => first | (go_simp; done) | (go_simp; rfl)); intro gb344 hg w10 hbox hb; replace HO0_1 := zaa.mk (Kd.zqc (Kd.zld (by (with_reducible repeat (first | apply Kd.zza | apply Kd.zya | apply Kd.zib)); exact HO0_1.out) gb344 (Nat.le_of_eq hg.symm)) hb); replace HO339 := zaa.mk (Kd.zqc (Kd.zld (by (with_reducible repeat (first | apply Kd.zza | apply Kd.zya | apply Kd.zib)); exact HO339.out) gb344 (Nat.le_of_eq hg.symm)) hb); replace HO342 := zaa.mk (Kd.zqc (Kd.zld (by (with_reducible repeat (first | apply Kd.zza | apply Kd.zya | apply Kd.zib)); exact HO342.out) gb344 (Nat.le_of_eq hg.symm)) hb); have BK344 := zaa.mk (hbox); have GW344 := zaa.mk ((by rw [hg]; exact (zja (by repeat (first | (with_reducible first | exact HB.out | apply zda | apply zba | apply zca | refine zea ?_ GE335.out) | exact HB.out))) : w.heap.size ≤ gb344)); have GE344 := zaa.mk ((by rw [hg]; exact (zja (by repeat (first | (with_reducible first | exact HB.out | apply zda | apply zba | apply zca | refine zea ?_ GE335.out) | exact HB.out))) : w.heap.size ≤ gb344)); replace HB := zaa.mk (zma (by repeat (first | (with_reducible first | exact HB.out | apply zda | apply zba | apply zca | refine zea ?_ GE335.out) | exact HB.out)) hb); have NB335_344 := zaa.mk ((by rw [hg]; exact Nat.ne_of_lt (zbc (g := gb335) (o := .cells #[.int .i64 a0_0, .slice A0_1 l0_1.length c0_1] 29 (0, 0)) (by (with_reducible repeat (first | refine zga ?_ _ | refine zha ?_ | refine zfa ?_ _)); exact BK335.out)) : gb335 ≠ gb344)); have NB344_335 := zaa.mk ((by rw [hg]; exact Nat.ne_of_gt (zbc (g := gb335) (o := .cells #[.int .i64 a0_0, .slice A0_1 l0_1.length c0_1] 29 (0, 0)) (by (with_reducible repeat (first | refine zga ?_ _ | refine zha ?_ | refine zfa ?_ _)); exact BK335.out)) : gb344 ≠ gb335)); replace BK335 := zaa.mk (zna (g := gb335) (o := .cells #[.int .i64 a0_0, .slice A0_1 l0_1.length c0_1] 29 (0, 0)) (by (with_reducible repeat (first | refine zga ?_ _ | refine zha ?_ | refine zfa ?_ _)); exact BK335.out) hb); clear hb hbox hg; have hnb11 := NB344_335.out; have hnc11 := NB335_344.out; have hcz12_0 : w10.cell? ⟨gb344, 0, none⟩ = some (.int .i64 0) := (zla BK344.out 0).trans rfl; have hcz12_1 : w10.cell? ⟨gb344, 1, none⟩ = some (.slice none 0 0) := (zla BK344.out 1).trans rfl; have hfz12_0 := zka BK344.out 0; have hfz12_1 := zka BK344.out 1; obtain ⟨Ao13, co13, eo13⟩ := Kd.V_slice HO339.out; subst eo13) | ((with_reducible refine gate_store (t := 66) (p := 9) rfl ?_); (try (rw [drewN_self w10]; generalize hq_ : World.drewN w10 _ = w10; have n0_ := zaa.mk (Kd.V_at hq_ HO0_1.out); have n1_ := zaa.mk (Kd.V_at hq_ HO339.out); have n2_ := zaa.mk (Kd.V_at hq_ HO342.out); have n3_ := zaa.mk (blk_at hq_ BK335.out); have n4_ := zaa.mk (blk_at hq_ BK344.out); have n5_ := zaa.mk (below_at hq_ HB.out); clear hq_ HO0_1 HO339 HO342 BK335 BK344 HB; have HO0_1 := n0_; have HO339 := n1_; have HO342 := n2_; have BK335 := n3_; have BK344 := n4_; have HB := n5_; clear n0_ n1_ n2_ n3_ n4_ n5_)); refine store_event (t := 66) (p := 9) (v := ?vo_w14) (w1 := ((w10.setCell ⟨gb344, 0, none⟩ (.int .i64 t336)).setCell ⟨gb344, 1, none⟩ (.slice Ao13 t337.length co13))) ?hg ?ho ?hn ?hr ?_; (case ho => rfl); (case hg => rfl); (case hn => rfl); (case hr => first | (go_simp; done) | (go_simp; rfl)); intro w14 hw; have n0_ : zaa (Kd.V (Kd.int .i64) 3 w14 w.heap.size (fun k_ => (P0_1_ k_ ∨ w.heap.size ≤ k_) ∧ k_ ≠ gb335 ∧ k_ ≠ gb344) (.slice A0_1 l0_1.length c0_1) l0_1) := ⟨(by rw [hw]; exact (by (with_reducible repeat (first | apply Kd.zza | apply Kd.zya | apply Kd.zib)); exact Kd.zcc (Kd.zbe (p := ⟨gb344, 1, none⟩) (Kd.zbe (p := ⟨gb344, 0, none⟩) (Kd.zcc HO0_1.out (fun k_ hk => (⟨hk, hk.2⟩ : _ ∧ k_ ≠ gb344))) (fun _ hk => hk.2) (.int .i64 t336)) (fun _ hk => hk.2) (.slice Ao13 t337.length co13)) (fun _ hk => ⟨hk.1.1.1, ⟨hk.1.1.2, hk.1.2⟩⟩)))⟩; have n1_ : zaa (Kd.V (Kd.int .i64) 3 w14 w.heap.size (fun k_ => (P0_1_ k_ ∨ w.heap.size ≤ k_) ∧ k_ ≠ gb335 ∧ k_ ≠ gb344) (.slice Ao13 t337.length co13) t337) := ⟨(by rw [hw]; exact (by (with_reducible repeat (first | apply Kd.zza | apply Kd.zya | apply Kd.zib)); exact Kd.zcc (Kd.zbe (p := ⟨gb344, 1, none⟩) (Kd.zbe (p := ⟨gb344, 0, none⟩) (Kd.zcc HO339.out (fun k_ hk => (⟨hk, hk.2⟩ : _ ∧ k_ ≠ gb344))) (fun _ hk => hk.2) (.int .i64 t336)) (fun _ hk => hk.2) (.slice Ao13 t337.length co13)) (fun _ hk => ⟨hk.1.1.1, ⟨hk.1.1.2, hk.1.2⟩⟩)))⟩; have n2_ : zaa (Kd.V (Kd.slice 32 k32) 33 w14 w.heap.size (fun k_ => (P0_1_ k_ ∨ w.heap.size ≤ k_) ∧ k_ ≠ gb335 ∧ k_ ≠ gb344) v341 t340) := ⟨(by rw [hw]; exact (by (with_reducible repeat (first | apply Kd.zza | apply Kd.zya | apply Kd.zib)); exact Kd.zcc (Kd.zbe (p := ⟨gb344, 1, none⟩) (Kd.zbe (p := ⟨gb344, 0, none⟩) (Kd.zcc HO342.out (fun k_ hk => (⟨hk, hk.2⟩ : _ ∧ k_ ≠ gb344))) (fun _ hk => hk.2) (.int .i64 t336)) (fun _ hk => hk.2) (.slice Ao13 t337.length co13)) (fun _ hk => ⟨hk.1.1.1, ⟨hk.1.1.2, hk.1.2⟩⟩)))⟩; have n3_ : zaa (w14.heap[gb335]? = some (.cells #[.int .i64 a0_0, .slice A0_1 l0_1.length c0_1] 29 (0, 0))) := ⟨(by rw [hw]; exact (by (with_reducible repeat (first | refine zga ?_ _ | refine zha ?_ | refine zfa ?_ _)); refine zsc ?_ NB335_344.out _; (with_reducible repeat (first | refine zga ?_ _ | refine zha ?_ | refine zfa ?_ _)); refine zsc ?_ NB335_344.out _; (with_reducible repeat (first | refine zga ?_ _ | refine zha ?_ | refine zfa ?_ _)); exact BK335.out))⟩; have n4_ : zaa (w14.heap[gb344]? = some (.cells #[.int .i64 t336, .slice Ao13 t337.length co13] 66 (0, 0))) := ⟨(by rw [hw]; exact (by (with_reducible repeat (first | refine zga ?_ _ | refine zha ?_ | refine zfa ?_ _)); refine zzc (cs := #[.int .i64 t336, .slice none 0 0]) ?_ 1 _ rfl; (with_reducible repeat (first | refine zga ?_ _ | refine zha ?_ | refine zfa ?_ _)); refine zzc (cs := #[.int .i64 0, .slice none 0 0]) ?_ 0 _ rfl; (with_reducible repeat (first | refine zga ?_ _ | refine zha ?_ | refine zfa ?_ _)); exact BK344.out))⟩; have n5_ : zaa (Below w.heap.size w w14) := ⟨(by rw [hw]; exact (by repeat (first | (with_reducible first | exact HB.out | apply zda | apply zba | apply zca | refine zea ?_ GE335.out | refine zea ?_ GE344.out) | exact HB.out)))⟩; clear hw; clear HO0_1; clear HO339; clear HO342; clear BK335; clear BK344; clear HB; have HO0_1 := n0_; have HO339 := n1_; have HO342 := n2_; have BK335 := n3_; have BK344 := n4_; have HB := n5_; clear n0_ n1_ n2_ n3_ n4_ n5_; obtain ⟨Ao15, co15, eo15⟩ := Kd.V_slice HO342.out; subst eo15; have p345 : 0 ≤ (0 : Int) := (by omega); have q345 : 0 < (t340.length : Int) := of_decide_eq_true (by first | (with_reducible assumption) | assumption); obtain ⟨ad345, A345_0, c345_0, e345, hx345_0, hl345_0, hi345_0⟩ := at_L2 (Kd.zwd HO342.out).2.2 0 p345 q345; cases e345; obtain ⟨ce345, hce345, hMe345, hcc345⟩ := Kd.V_get HO342.out [] 0 p345 (by first | exact q345 | exact of_decide_eq_true (by first | (with_reducible assumption) | assumption) | (have e_ := (Kd.zwd HO342.out).1; omega)); obtain ⟨ua345_0, uc345_0, rfl, ul345_0, ge345_0⟩ := Kd.FK_slice_open hMe345; have hv345_0 := hcc345 0 _ rfl; rw [Nat.add_zero, show ((Kd.slice 32 k32)).sz = 1 from rfl, Nat.mul_one] at hv345_0; replace hv345_0 := Option.some.inj (hv345_0.symm.trans hx345_0); injection hv345_0 with hva_ hvn_ hvc_; rw [hva_] at ge345_0; rw [hvc_] at ul345_0; have HL345_0 := zaa.mk (show Kd.V k32 32 _ w.heap.size _ _ (rd_L2 t340 0) from Kd.V_mk ul345_0 ge345_0); clear hva_ hvn_ hvc_ ge345_0 ul345_0; clear hcc345 hce345; have qi345 : (0 < t340.length) = True := eq_true (by omega); (try rw [show ((0 : Int)).toNat = 0 from rfl] at hx345_0); (try rw [Addr.add_zero'] at hx345_0); have HR345_0 := zaa.mk hi345_0; have HC345_0 := zaa.mk hl345_0; clear hi345_0 hl345_0; replace p345 := eq_true p345; replace q345 := eq_true q345)))
     go_ret3
     exact ⟨_, by first | rfl | (simp [zwa, zva] <;> rfl) | (simp [*, zwa, zva] <;> rfl), by (with_reducible repeat (first | apply Kd.zza | apply Kd.zya | apply Kd.zib)); exact Kd.zcc HL345_0.out (fun _ hk => hk.1), by repeat (first | (with_reducible first | exact HB.out | apply zda | apply zba | apply zca | refine zea ?_ GE335.out | refine zea ?_ GE344.out) | exact HB.out)⟩
   · rw [if_neg c6] at H
     exact absurd H (by simp)
 · rw [if_neg c5] at H
   exact absurd H (by simp)
end Go.Proofs.YtoacbkoenkiahaaGreat.PTopGluePlate
end
section
namespace Go.Proofs.YtoacbkoenkiahaaGreat.PTopGluePlate
open Go.RowKit Go.Proofs.YtoacbkoenkiahaaGreatW.PrintWords Go.Proofs.YtoacbkoenkiahaaGreatW.PrintLast Go.Proofs.YtoacbkoenkiahaaGreatW.PrintMore
attribute [local go_sem] znb zlb zhc zgc zeb zdb zmb zkb
set_option linter.unusedVariables false
set_option linter.unusedSimpArgs false
def print_Load_1.f (l0 : List Int) (a1_0 : Int) : Option (Bool) := some (decide ((l0.length : Int) > a1_0))
set_option maxHeartbeats 8000000 in
set_option maxRecDepth 100000 in
theorem print_Load_1.calls (A0 : Option Addr) (c0 : Nat) (l0 : List Int) (g1_ : Nat) (a1_0 : Int) (r : Bool) (w : World) (hr0 : Kd.C (Kd.int .i64) w A0 l0.length l0) (hc0 : l0.length ≤ c0) (hbx1 : w.heap[g1_]? = some (.cells #[.int .i64 a1_0] 3 (0, 0))) (h : print_Load_1.f l0 a1_0 = some r) :
 Calls Tryz.prog 54 #[.slice A0 l0.length c0, .pointer (some ⟨g1_, 0, none⟩)] w fun e w' => e = .returned (.bool r) ∧ zjc w w' := by
 have HR0 := zaa.mk hr0
 have HC0 := zaa.mk hc0
 clear hr0 hc0
 have BK1 := zaa.mk hbx1
 clear hbx1
 have H : (some (decide ((l0.length : Int) > a1_0))) = some r := h
 clear h
 obtain rfl := Option.some.inj H
 have hcz3_0 : w.cell? ⟨g1_, 0, none⟩ = some (.int .i64 a1_0) := (zla BK1.out 0).trans rfl
 have hfz3_0 := zka BK1.out 0
 go_enter Tryz.func54, Tryz.ntmps54
 go_wp2
 go_ret
 exact ⟨by first | rfl | (simp; done) | (simp [*]; done), by repeat (first | exact zjc.refl _ | apply zjc.step)⟩
end Go.Proofs.YtoacbkoenkiahaaGreat.PTopGluePlate
end
section
namespace Go.Proofs.YtoacbkoenkiahaaGreat.PTopGluePlate
open Go.RowKit Go.Proofs.YtoacbkoenkiahaaGreatW.PrintWords Go.Proofs.YtoacbkoenkiahaaGreatW.PrintLast Go.Proofs.YtoacbkoenkiahaaGreatW.PrintMore
attribute [local go_sem] znb zlb zhc zgc zeb zdb zmb zkb
set_option linter.unusedVariables false
set_option linter.unusedSimpArgs false
def print_areInks.f (l0 : List Int) : Option (Bool) := (zxb.f 1 9 l0).bind fun t346 => (some t346)
set_option maxHeartbeats 8000000 in
set_option maxRecDepth 100000 in
theorem print_areInks.calls (A0 : Option Addr) (c0 : Nat) (l0 : List Int) (r : Bool) (w : World) (hr0 : Kd.C (Kd.int .i64) w A0 l0.length l0) (hc0 : l0.length ≤ c0) (h : print_areInks.f l0 = some r) :
 Calls Tryz.prog 56 #[.slice A0 l0.length c0] w fun e w' => e = .returned (.bool r) ∧ Below w.heap.size w w' := by
 have HR0 := zaa.mk hr0
 have HC0 := zaa.mk hc0
 clear hr0 hc0
 have HB := zaa.mk (Below.refl w.heap.size w)
 have H : ((zxb.f 1 9 l0).bind fun t346 => (some t346)) = some r := h
 clear h
 replace H := Option.bind_eq_some_iff.mp H
 obtain ⟨t346, A20, H⟩ := H
 replace H : (some t346) = some r := H
 have A2 := zaa.mk A20
 clear A20
 obtain rfl := Option.some.inj H
 go_enter Tryz.func56, Tryz.ntmps56
 go_wp2_with (first | ((with_reducible refine zxa (f := 25) rfl ?_); refine zhd (some 4) rfl rfl Tryz.func25 (by kernel_rfl) rfl #[.int .i64 1, .int .i64 9, .slice A0 l0.length c0] rfl (by (try simp only [List.map_toArray, List.map_cons, List.map_nil]); first | done | rfl | (simp only [List.length_drop, List.length_take]; rfl)) ?_; (with_reducible refine (zxb.calls 1 9 _ _ l0 t346 _ ?side1 ?side2 A2.out).mono ?_); (case side1 => repeat (first | exact HR0.out | (with_reducible refine Kd.zrb ?_ _) | (with_reducible refine Kd.zqb ?_ _) | (with_reducible refine Kd.zmc ?_))); (case side2 => exact HC0.out); rintro e w3 ⟨rfl, hb⟩; refine ⟨_, rfl, ?_⟩; replace HB := zaa.mk (zma (by repeat (first | (with_reducible first | exact HB.out | apply zda | apply zba | apply zca) | exact HB.out)) hb); (try clear hb); (try clear hb2); (try clear hk); (try clear hi)))
 go_ret
 exact ⟨by first | rfl | (simp [zwa, zva] <;> rfl) | (simp [*, zwa, zva] <;> rfl), by repeat (first | (with_reducible first | exact HB.out | apply zda | apply zba | apply zca) | exact HB.out)⟩
end Go.Proofs.YtoacbkoenkiahaaGreat.PTopGluePlate
end
section
namespace Go.Proofs.YtoacbkoenkiahaaGreat.PTopGluePlate
open Go.RowKit Go.Proofs.YtoacbkoenkiahaaGreatW.PrintWords Go.Proofs.YtoacbkoenkiahaaGreatW.PrintLast Go.Proofs.YtoacbkoenkiahaaGreatW.PrintMore
attribute [local go_sem] znb zlb zhc zgc zeb zdb zmb zkb
set_option linter.unusedVariables false
set_option linter.unusedSimpArgs false
def print_Load_2.f (l0 : List Int) : Option (Bool) := (print_areInks.f l0).bind fun t347 => (some (!t347))
set_option maxHeartbeats 8000000 in
set_option maxRecDepth 100000 in
theorem print_Load_2.calls (A0 : Option Addr) (c0 : Nat) (l0 : List Int) (r : Bool) (w : World) (hr0 : Kd.C (Kd.int .i64) w A0 l0.length l0) (hc0 : l0.length ≤ c0) (h : print_Load_2.f l0 = some r) :
 Calls Tryz.prog 55 #[.slice A0 l0.length c0] w fun e w' => e = .returned (.bool r) ∧ Below w.heap.size w w' := by
 have HR0 := zaa.mk hr0
 have HC0 := zaa.mk hc0
 clear hr0 hc0
 have HB := zaa.mk (Below.refl w.heap.size w)
 have H : ((print_areInks.f l0).bind fun t347 => (some (!t347))) = some r := h
 clear h
 replace H := Option.bind_eq_some_iff.mp H
 obtain ⟨t347, A20, H⟩ := H
 replace H : (some (!t347)) = some r := H
 have A2 := zaa.mk A20
 clear A20
 obtain rfl := Option.some.inj H
 go_enter Tryz.func55, Tryz.ntmps55
 go_wp2_with (first | ((with_reducible refine zxa (f := 56) rfl ?_); refine zhd (some 4) rfl rfl Tryz.func56 (by kernel_rfl) rfl #[.slice A0 l0.length c0] rfl (by (try simp only [List.map_toArray, List.map_cons, List.map_nil]); first | done | rfl | (simp only [List.length_drop, List.length_take]; rfl)) ?_; (with_reducible refine (print_areInks.calls _ _ l0 t347 _ ?side1 ?side2 A2.out).mono ?_); (case side1 => repeat (first | exact HR0.out | (with_reducible refine Kd.zrb ?_ _) | (with_reducible refine Kd.zqb ?_ _) | (with_reducible refine Kd.zmc ?_))); (case side2 => exact HC0.out); rintro e w3 ⟨rfl, hb⟩; refine ⟨_, rfl, ?_⟩; replace HB := zaa.mk (zma (by repeat (first | (with_reducible first | exact HB.out | apply zda | apply zba | apply zca) | exact HB.out)) hb); (try clear hb); (try clear hb2); (try clear hk); (try clear hi)))
 go_ret
 exact ⟨by first | rfl | (simp [zwa, zva] <;> rfl) | (simp [*, zwa, zva] <;> rfl), by repeat (first | (with_reducible first | exact HB.out | apply zda | apply zba | apply zca) | exact HB.out)⟩
end Go.Proofs.YtoacbkoenkiahaaGreat.PTopGluePlate
end
section
namespace Go.Proofs.YtoacbkoenkiahaaGreat.PTopGluePlate
open Go.RowKit Go.Proofs.YtoacbkoenkiahaaGreatW.PrintWords Go.Proofs.YtoacbkoenkiahaaGreatW.PrintLast Go.Proofs.YtoacbkoenkiahaaGreatW.PrintMore
attribute [local go_sem] znb zlb zhc zgc zeb zdb zmb zkb
set_option linter.unusedVariables false
set_option linter.unusedSimpArgs false
mutual
def zra.l0 : Nat → List Int → Int → Int → Int → Option (List Int)
 | 0, _, _, _, _ => none
 | k + 1, x0, x1, x2, x6 => if x6 < x2 then (zra.l1 k x0 x1 x2 x6 x6) else (some x0)
def zra.l1 : Nat → List Int → Int → Int → Int → Int → Option (List Int)
 | 0, _, _, _, _, _ => none
 | k + 1, x0, x1, x2, x6, x7 => if x7 > x1 then (if 0 ≤ x7 then (if x7 < (x0.length : Int) then (if 0 ≤ (wrap64 (x7 - 1)) then (if (wrap64 (x7 - 1)) < (x0.length : Int) then ((cmp_Less_int.f (rd x0 x7) (rd x0 (wrap64 (x7 - 1)))).bind fun t350 => (if t350 = true then (none) else (zra.l0 k x0 x1 x2 (wrap64 (x6 + 1))))) else (none)) else (none)) else (none)) else (none)) else (zra.l0 k x0 x1 x2 (wrap64 (x6 + 1)))
end
def zra.f (k : Nat) (l0 : List Int) (a1 : Int) (a2 : Int) : Option (List Int) := zra.l0 k l0 a1 a2 (wrap64 (a1 + 1))
def zra.T4 : Bool × List (List Nat × List Nat) := (true, [([], []), ([], []), ([0, 1], [0, 1]), ([2], [2]), ([3], [3]), ([3], [3]), ([4, 5, 3], [3, 4, 5]), ([6, 3], [3, 6]), ([3], [3]), ([3], [3]), ([9, 3], [3, 9]), ([8, 10, 3], [3, 8, 10]), ([11, 3], [3, 11]), ([7, 12, 3, 3], [3, 7, 12]), ([3, 13], [3, 13])])
def zra.B4 : List Nat := [0, 0, 3, 7, 15, 15, 63, 127, 15, 15, 527, 1807, 3855, 8191, 16383]
theorem zra.tab4 : rtab .any (opsOf Tryz.f93 4) = zra.T4 := by kernel_rfl
theorem zra.bits4 : waitsOk zra.T4.2 zra.B4 = true := by kernel_rfl
set_option maxHeartbeats 8000000 in
set_option maxRecDepth 100000 in
theorem zra.calls (k : Nat) (P0_ : Nat → Prop) (u9000_ : Value) (l0 : List Int) (a1 : Int) (a2 : Int) (r : List Int) (w0 w : World) (hB : Below w0.heap.size w0 w) (ho0 : Kd.R (Kd.int .i64) 3 w w0.heap.size P0_ u9000_ l0) (h : zra.f k l0 a1 a2 = some r) :
 Calls Tryz.prog 93 #[u9000_, .int .i64 a1, .int .i64 a2] w fun e w' => e = .returned (.tuple #[]) ∧ Kd.R (Kd.int .i64) 3 w' w0.heap.size (fun k_ => (P0_ k_ ∨ w.heap.size ≤ k_)) u9000_ r ∧ Below w0.heap.size w0 w' ∧ Kept w w' (fun k_ => P0_ k_) := by
 have HO0 := zaa.mk (show Kd.R (Kd.int .i64) 3 w w0.heap.size (fun k_ => (P0_ k_ ∨ w.heap.size ≤ k_)) u9000_ l0 from Kd.zsd ho0 (fun k_ hk => (.inl hk)))
 have HK := zaa.mk (Kept.refl w (fun k_ => P0_ k_))
 have HW0 := zaa.mk hB.size
 have HB := zaa.mk hB
 clear hB
 have H : (zra.l0 k l0 a1 a2 (wrap64 (a1 + 1))) = some r := h
 clear h
 have H' := zaa.mk H
 clear H
 go_enter Tryz.func93, Tryz.ntmps93
 go_wp2
 go_loopg [6] k (fun kq v6 w' => ∃ (x0_1 : List Int) (x6_1 : Int), v6 = .int .i64 x6_1 ∧ zaa (zra.l0 kq x0_1 a1 a2 x6_1 = some r) ∧ zaa (kq ≤ k) ∧ zaa (Kd.R (Kd.int .i64) 3 w' w0.heap.size (fun k_ => (P0_ k_ ∨ w.heap.size ≤ k_)) u9000_ x0_1) ∧ zaa (Kept w w' (fun k_ => P0_ k_)) ∧ zaa (Below w0.heap.size w0 w'))
 case atStart => exact ⟨(l0), (wrap64 (a1 + 1)), (by first | rfl | (simp; done) | (simp [*]; done)), H', ⟨Nat.le_refl _⟩, ⟨by (with_reducible repeat (first | apply Kd.zqa | apply Kd.zpa | apply Kd.zsa)); exact HO0.out⟩, ⟨by repeat (first | (with_reducible first | exact HK.out | apply Kept.alloc | apply Kept.drewN | apply Kept.drew) | exact HK.out)⟩, ⟨by repeat (first | (with_reducible first | exact HB.out | apply zda | apply zba | apply zca) | exact HB.out)⟩⟩
 case round =>
  clear H'
  try clear p2
  obtain ⟨x0_1, x6_1, rfl, HA, HK1, HO_0, HK, HB⟩ := hrel
  cases gk with
  | zero => exact absurd HA.out (by simp [zra.l0])
  | succ k1 =>
   have H := HA.out
   clear HA
   simp only [zra.l0] at H
   by_cases c4 : x6_1 < a2
   · rw [if_pos c4] at H
     have c4b0 : decide (x6_1 < a2) = true := decide_eq_true c4
     clear c4
     have H' := zaa.mk H
     clear H
     go_wp2
     go_loopg [7] k1 (fun kq v7 w' => ∃ (x0_2 : List Int) (x7_2 : Int), v7 = .int .i64 x7_2 ∧ zaa (zra.l1 kq x0_2 a1 a2 x6_1 x7_2 = some r) ∧ zaa (kq ≤ k1) ∧ zaa (Kd.R (Kd.int .i64) 3 w' w0.heap.size (fun k_ => (P0_ k_ ∨ w.heap.size ≤ k_)) u9000_ x0_2) ∧ zaa (Kept w w' (fun k_ => P0_ k_)) ∧ zaa (Below w0.heap.size w0 w'))
     case atStart => exact ⟨(x0_1), (x6_1), (by first | rfl | (simp; done) | (simp [*]; done)), H', ⟨Nat.le_refl _⟩, ⟨by (with_reducible repeat (first | apply Kd.zqa | apply Kd.zpa | apply Kd.zsa)); exact HO_0.out⟩, ⟨by repeat (first | (with_reducible first | exact HK.out | apply Kept.alloc | apply Kept.drewN | apply Kept.drew) | exact HK.out)⟩, ⟨by repeat (first | (with_reducible first | exact HB.out | apply zda | apply zba | apply zca) | exact HB.out)⟩⟩
     case round =>
      clear H'
      try clear p2
      try clear c4
      try clear c4b0
      try clear p2
      obtain ⟨x0_2, x7_2, rfl, HA, HK2, HO_0, HK, HB⟩ := hrel
      cases gk with
      | zero => exact absurd HA.out (by simp [zra.l1])
      | succ k2 =>
       have H := HA.out
       clear HA
       simp only [zra.l1] at H
       by_cases c5 : x7_2 > a1
       · rw [if_pos c5] at H
         have c5b0 : decide (a1 < x7_2) = true := decide_eq_true c5
         clear c5
         by_cases c6 : 0 ≤ x7_2
         · rw [if_pos c6] at H
           have c6b0 : decide (0 ≤ x7_2) = true := decide_eq_true c6
           clear c6
           by_cases c7 : x7_2 < (x0_2.length : Int)
           · rw [if_pos c7] at H
             have c7b0 : decide (x7_2 < (x0_2.length : Int)) = true := decide_eq_true c7
             clear c7
             obtain ⟨ji8, hji8⟩ : ∃ j_ : Int, (wrap64 (x7_2 - 1)) = j_ := ⟨_, rfl⟩
             replace H : (if 0 ≤ (ji8) then (if (ji8) < (x0_2.length : Int) then ((cmp_Less_int.f (rd x0_2 x7_2) (rd x0_2 (ji8))).bind fun t350 => (if t350 = true then (none) else (zra.l0 k2 x0_2 a1 a2 (wrap64 (x6_1 + 1))))) else (none)) else (none)) = some r := by first | (rw [hji8] at H; exact H) | (simp only [hji8] at H ⊢; exact H)
             have hji8w : (IntKind.i64.wrap (x7_2 - 1)) = ji8 := (zpb _).trans hji8
             by_cases c9 : 0 ≤ (ji8)
             · rw [if_pos c9] at H
               have c9b0 : decide (0 ≤ (ji8)) = true := decide_eq_true c9
               clear c9
               by_cases c10 : (ji8) < (x0_2.length : Int)
               · rw [if_pos c10] at H
                 have c10b0 : decide ((ji8) < (x0_2.length : Int)) = true := decide_eq_true c10
                 clear c10
                 replace H := Option.bind_eq_some_iff.mp H
                 obtain ⟨t350, A110, H⟩ := H
                 replace H : (if t350 = true then (none) else (zra.l0 k2 x0_2 a1 a2 (wrap64 (x6_1 + 1)))) = some r := H
                 have A11 := zaa.mk A110
                 clear A110
                 by_cases c12 : t350 = true
                 · subst c12
                   have H1 : (none) = some r := by rw [if_pos rfl] at H; exact H
                   clear H
                   have H := H1
                   clear H1
                   exact absurd H (by simp)
                 · replace c12 := Bool.eq_false_iff.mpr c12
                   subst c12
                   have H1 : (zra.l0 k2 x0_2 a1 a2 (wrap64 (x6_1 + 1))) = some r := by rw [if_neg (show ¬ (false = true) by decide)] at H; exact H
                   clear H
                   have H := H1
                   clear H1
                   have H' := zaa.mk H
                   clear H
                   try go_wp2
                   replace HO_0 := zaa.mk (Kd.zsa HO_0.out)
                   replace HK := zaa.mk (Kept.drew HK.out)
                   replace HB := zaa.mk (zca HB.out)
                   obtain ⟨Ao15, co15, eo15⟩ := Kd.zfd HO_0.out
                   (first | subst eo15 | (injection eo15 with f1_ f2_ f3_; have f4_ := f1_.symm; have f5_ := f3_.symm; clear f1_ f2_ f3_; subst f4_; subst f5_))
                   have p348 : 0 ≤ (x7_2 : Int) := of_decide_eq_true (by first | (with_reducible assumption) | assumption)
                   have q348 : x7_2 < (x0_2.length : Int) := of_decide_eq_true (by first | (with_reducible assumption) | assumption)
                   obtain ⟨ad348, e348, hx348_0⟩ := Kd.at_int (Kd.zgb HO_0.out).2.2 x7_2 p348 q348
                   cases e348
                   replace p348 := eq_true p348
                   replace q348 := eq_true q348
                   have p349 : 0 ≤ ((ji8) : Int) := of_decide_eq_true (by first | (with_reducible assumption) | assumption)
                   have q349 : (ji8) < (x0_2.length : Int) := of_decide_eq_true (by first | (with_reducible assumption) | assumption)
                   obtain ⟨ad349, e349, hx349_0⟩ := Kd.at_int (Kd.zgb HO_0.out).2.2 (ji8) p349 q349
                   obtain rfl : ad348 = ad349 := (by injection e349)
                   replace p349 := eq_true p349
                   replace q349 := eq_true q349
                   refine start_ (n := 15) (S := fun w' => w'.cell? (ad348.add (x7_2).toNat) = some (.int .i64 (rd x0_2 x7_2)) ∧ w'.cell? (ad348.add ((ji8)).toNat) = some (.int .i64 (rd x0_2 (ji8)))) (ds := []) #[false, false, false, false, false, false, false, false, false, false, false, false, false, false, false] (by kernel_rfl) rfl rfl ⟨hx348_0, hx349_0⟩ (fun hHeld => ?_); refine with_tabW zra.tab4 zra.bits4 (fun HT_ HW_ => ?_)
                   generalize wr.drew = w14 at HO_0 HK HB hx348_0 hx349_0 hHeld ⊢
                   refine zxc (i := 0) (N := some 16) (v := ?_) (a' := ?_) #[true, false, false, false, false, false, false, false, false, false, false, false, false, false, false] rfl rfl (zyb HT_.out (by kernel_rfl)) (fun _ _ _ h => h) (Or.inl ⟨by rfl, ?_⟩) ?_ ?_
                   rotate_left
                   · intro w'
                     go_simp
                     with_reducible rfl
                   rotate_left
                   · simp only [Act.put, List.setIfInBounds_toArray, List.set_cons_zero, List.set_cons_succ, zpb, zzb]
                     rfl
                   refine zxc (i := 1) (N := some 17) (v := ?_) (a' := ?_) #[true, true, false, false, false, false, false, false, false, false, false, false, false, false, false] rfl rfl (zyb HT_.out (by kernel_rfl)) (fun _ _ _ h => h) (Or.inl ⟨by rfl, ?_⟩) ?_ ?_
                   rotate_left
                   · intro w'
                     go_simp
                     with_reducible rfl
                   rotate_left
                   · simp only [Act.put, List.setIfInBounds_toArray, List.set_cons_zero, List.set_cons_succ, zpb, zzb]
                     rfl
                   refine zxc (i := 2) (N := some 18) (v := ?_) (a' := ?_) #[true, true, true, false, false, false, false, false, false, false, false, false, false, false, false] rfl rfl (zyb HT_.out (by kernel_rfl)) (fun _ _ _ h => h) (Or.inl ⟨by rfl, ?_⟩) ?_ ?_
                   rotate_left
                   · intro w'
                     go_simp
                     with_reducible rfl
                   rotate_left
                   · simp only [Act.put, List.setIfInBounds_toArray, List.set_cons_zero, List.set_cons_succ, zpb, zzb]
                     rfl
                   refine zxc (i := 3) (N := some 19) (v := ?_) (a' := ?_) #[true, true, true, true, false, false, false, false, false, false, false, false, false, false, false] rfl rfl (zyb HT_.out (by kernel_rfl)) (fun _ _ _ h => h) (Or.inl ⟨by rfl, ?_⟩) ?_ ?_
                   rotate_left
                   · intro w'
                     go_simp
                     with_reducible rfl
                   rotate_left
                   · simp only [Act.put, List.setIfInBounds_toArray, List.set_cons_zero, List.set_cons_succ, zpb, zzb]
                     rfl
                   refine zxc (i := 4) (N := some 20) (v := ?_) (a' := ?_) #[true, true, true, true, true, false, false, false, false, false, false, false, false, false, false] rfl rfl (zyb HT_.out (by kernel_rfl)) (fun _ _ _ h => h) (Or.inl ⟨by rfl, ?_⟩) ?_ ?_
                   rotate_left
                   · intro w'
                     go_simp
                     with_reducible rfl
                   rotate_left
                   · simp only [Act.put, List.setIfInBounds_toArray, List.set_cons_zero, List.set_cons_succ, zpb, zzb]
                     rfl
                   refine zxc (i := 5) (N := some 21) (v := ?_) (a' := ?_) #[true, true, true, true, true, true, false, false, false, false, false, false, false, false, false] rfl rfl (zyb HT_.out (by kernel_rfl)) (fun _ _ _ h => h) (Or.inl ⟨by rfl, ?_⟩) ?_ ?_
                   rotate_left
                   · intro w'
                     go_simp
                     with_reducible rfl
                   rotate_left
                   · simp only [Act.put, List.setIfInBounds_toArray, List.set_cons_zero, List.set_cons_succ, zpb, zzb]
                     rfl
                   refine zxc (i := 6) (N := some 22) (v := ?_) (a' := ?_) #[true, true, true, true, true, true, true, false, false, false, false, false, false, false, false] rfl rfl (zyb HT_.out (by kernel_rfl)) (fun _ _ _ h => h) (Or.inl ⟨by rfl, ?_⟩) ?_ ?_
                   rotate_left
                   · intro w'
                     go_simp
                     with_reducible rfl
                   rotate_left
                   · simp only [Act.put, List.setIfInBounds_toArray, List.set_cons_zero, List.set_cons_succ, zpb, zzb]
                     rfl
                   refine zxc (i := 8) (N := some 24) (v := ?_) (a' := ?_) #[true, true, true, true, true, true, true, false, true, false, false, false, false, false, false] rfl rfl (zyb HT_.out (by kernel_rfl)) (fun _ _ _ h => h) (Or.inl ⟨by rfl, ?_⟩) ?_ ?_
                   rotate_left
                   · intro w'
                     go_simp
                     with_reducible rfl
                   rotate_left
                   · simp only [Act.put, List.setIfInBounds_toArray, List.set_cons_zero, List.set_cons_succ, zpb, zzb]
                     rfl
                   refine zxc (i := 9) (N := some 25) (v := ?_) (a' := ?_) #[true, true, true, true, true, true, true, false, true, true, false, false, false, false, false] rfl rfl (zyb HT_.out (by kernel_rfl)) (fun _ _ _ h => h) (Or.inl ⟨by rfl, ?_⟩) ?_ ?_
                   rotate_left
                   · intro w'
                     go_simp
                     with_reducible rfl
                   rotate_left
                   · simp only [Act.put, List.setIfInBounds_toArray, List.set_cons_zero, List.set_cons_succ, zpb, zzb]
                     rfl
                   refine zxc (i := 10) (N := some 26) (v := ?_) (a' := ?_) #[true, true, true, true, true, true, true, false, true, true, true, false, false, false, false] rfl rfl (zyb HT_.out (by kernel_rfl)) (fun _ _ _ h => h) (Or.inl ⟨by rfl, ?_⟩) ?_ ?_
                   rotate_left
                   · intro w'
                     go_simp
                     with_reducible rfl
                   rotate_left
                   · simp only [Act.put, List.setIfInBounds_toArray, List.set_cons_zero, List.set_cons_succ, zpb, zzb]
                     rfl
                   refine zxc (i := 11) (N := some 27) (v := ?_) (a' := ?_) #[true, true, true, true, true, true, true, false, true, true, true, true, false, false, false] rfl rfl (zyb HT_.out (by kernel_rfl)) (fun _ _ _ h => h) (Or.inl ⟨by rfl, ?_⟩) ?_ ?_
                   rotate_left
                   · intro w'
                     go_simp
                     with_reducible rfl
                   rotate_left
                   · simp only [Act.put, List.setIfInBounds_toArray, List.set_cons_zero, List.set_cons_succ, zpb, zzb]
                     rfl
                   refine take_ (i := 7) (N := some 23) (v := ?_) (a' := ?_) #[true, true, true, true, true, true, true, true, true, true, true, true, false, false, false] rfl rfl (zge HT_.out HW_.out (by kernel_rfl)) (fun _ _ _ h => h) (Or.inl ⟨by rfl, ?_⟩) hHeld ?_ ?_
                   rotate_left
                   · rintro w' ⟨s0, s1⟩
                     go_simp
                     with_reducible rfl
                   rotate_left
                   · simp only [Act.put, List.setIfInBounds_toArray, List.set_cons_zero, List.set_cons_succ, zpb, zzb]
                     rfl
                   refine take_ (i := 12) (N := some 28) (v := ?_) (a' := ?_) #[true, true, true, true, true, true, true, true, true, true, true, true, true, false, false] rfl rfl (zge HT_.out HW_.out (by kernel_rfl)) (fun _ _ _ h => h) (Or.inl ⟨by rfl, ?_⟩) hHeld ?_ ?_
                   rotate_left
                   · rintro w' ⟨s0, s1⟩
                     go_simp
                     with_reducible rfl
                   rotate_left
                   · simp only [Act.put, List.setIfInBounds_toArray, List.set_cons_zero, List.set_cons_succ, zpb, zzb]
                     rfl
                   refine one_ (i := 13) (N := some 29) #[true, true, true, true, true, true, true, true, true, true, true, true, true, true, false] rfl rfl (one_of HT_.out (by kernel_rfl)) (by decide) (fun K hK => ?_)
                   refine goes_ Tryz.func84 (by kernel_rfl) rfl #[.int .i64 (rd x0_2 x7_2), .int .i64 (rd x0_2 (ji8))] (by rfl) rfl rfl (by (try simp only [List.map_toArray, List.map_cons, List.map_nil]); first | done | (simp only [hji8]; rfl) | rfl | (simp only [List.length_drop, List.length_take]; rfl)) ?_
                   with_reducible refine (cmp_Less_int.calls (rd x0_2 x7_2) (rd x0_2 (ji8)) false _ A11.out).mono ?_
                   rintro e w' ⟨rfl, ⟨nd, rfl⟩⟩
                   refine ⟨_, rfl, ?_⟩
                   refine hK.out _ _ ⟨hHeld.1, hHeld.2⟩ (fun hHeld => ?_)
                   clear hK K
                   refine norm_ (a' := ?_) ?_ ?_
                   rotate_left
                   · show Act.put _ (some 29) _ = _
                     simp only [Act.put, List.setIfInBounds_toArray, List.set_cons_zero, List.set_cons_succ, zpb, zzb]
                     rfl
                   refine zxc (i := 14) (N := some 30) (v := ?_) (a' := ?_) #[true, true, true, true, true, true, true, true, true, true, true, true, true, true, true] rfl rfl (zyb HT_.out (by kernel_rfl)) (fun _ _ _ h => h) (Or.inl ⟨by rfl, ?_⟩) ?_ ?_
                   rotate_left
                   · intro w'
                     go_simp
                     with_reducible rfl
                   rotate_left
                   · simp only [Act.put, List.setIfInBounds_toArray, List.set_cons_zero, List.set_cons_succ, zpb, zzb]
                     rfl
                   refine done_ (done_of HT_.out (by kernel_rfl)) ?_
                   try go_wp2
                   go_roundg k2
                   case measure => have := HK1.out; have := HK2.out; omega
                   case rel => exact ⟨(x0_2), (wrap64 (x6_1 + 1)), (by first | rfl | (simp; done) | (simp [*]; done)), H', ⟨by have := HK1.out; have := HK2.out; omega⟩, ⟨by (with_reducible repeat (first | apply Kd.zqa | apply Kd.zpa | apply Kd.zsa)); exact HO_0.out⟩, ⟨by repeat (first | (with_reducible first | exact HK.out | apply Kept.alloc | apply Kept.drewN | apply Kept.drew) | exact HK.out)⟩, ⟨by repeat (first | (with_reducible first | exact HB.out | apply zda | apply zba | apply zca) | exact HB.out)⟩⟩
               · rw [if_neg c10] at H
                 exact absurd H (by simp)
             · rw [if_neg c9] at H
               exact absurd H (by simp)
           · rw [if_neg c7] at H
             exact absurd H (by simp)
         · rw [if_neg c6] at H
           exact absurd H (by simp)
       · rw [if_neg c5] at H
         have c5b0 : decide (a1 < x7_2) = false := decide_eq_false c5
         clear c5
         have H' := zaa.mk H
         clear H
         try go_wp2
         replace HO_0 := zaa.mk (Kd.zsa HO_0.out)
         replace HK := zaa.mk (Kept.drew HK.out)
         replace HB := zaa.mk (zca HB.out)
         refine start_ (n := 15) (S := fun w' => True) (ds := []) #[false, false, false, false, false, false, false, false, false, false, false, false, false, false, false] (by kernel_rfl) rfl rfl trivial (fun hHeld => ?_); refine with_tabW zra.tab4 zra.bits4 (fun HT_ HW_ => ?_)
         generalize wr.drew = w16 at HO_0 HK HB hHeld ⊢
         refine zxc (i := 0) (N := some 16) (v := ?_) (a' := ?_) #[true, false, false, false, false, false, false, false, false, false, false, false, false, false, false] rfl rfl (zyb HT_.out (by kernel_rfl)) (fun _ _ _ h => h) (Or.inl ⟨by rfl, ?_⟩) ?_ ?_
         rotate_left
         · intro w'
           go_simp
           with_reducible rfl
         rotate_left
         · simp only [Act.put, List.setIfInBounds_toArray, List.set_cons_zero, List.set_cons_succ, zpb, zzb]
           rfl
         refine zxc (i := 1) (N := some 17) (v := ?_) (a' := ?_) #[true, true, false, false, false, false, false, false, false, false, false, false, false, false, false] rfl rfl (zyb HT_.out (by kernel_rfl)) (fun _ _ _ h => h) (Or.inl ⟨by rfl, ?_⟩) ?_ ?_
         rotate_left
         · intro w'
           go_simp
           with_reducible rfl
         rotate_left
         · simp only [Act.put, List.setIfInBounds_toArray, List.set_cons_zero, List.set_cons_succ, zpb, zzb]
           rfl
         refine zxc (i := 2) (N := some 18) (v := ?_) (a' := ?_) #[true, true, true, false, false, false, false, false, false, false, false, false, false, false, false] rfl rfl (zyb HT_.out (by kernel_rfl)) (fun _ _ _ h => h) (Or.inl ⟨by rfl, ?_⟩) ?_ ?_
         rotate_left
         · intro w'
           go_simp
           with_reducible rfl
         rotate_left
         · simp only [Act.put, List.setIfInBounds_toArray, List.set_cons_zero, List.set_cons_succ, zpb, zzb]
           rfl
         refine zxc (i := 3) (N := some 19) (v := ?_) (a' := ?_) #[true, true, true, true, false, false, false, false, false, false, false, false, false, false, false] rfl rfl (zyb HT_.out (by kernel_rfl)) (fun _ _ _ h => h) (Or.inl ⟨by rfl, ?_⟩) ?_ ?_
         rotate_left
         · intro w'
           go_simp
           with_reducible rfl
         rotate_left
         · simp only [Act.put, List.setIfInBounds_toArray, List.set_cons_zero, List.set_cons_succ, zpb, zzb]
           rfl
         refine zxc (i := 4) (N := some 20) (v := undef) (a' := ?_) #[true, true, true, true, true, false, false, false, false, false, false, false, false, false, false] rfl rfl (zyb HT_.out (by kernel_rfl)) (fun _ _ _ h => h) (Or.inr ⟨by rfl, rfl⟩) ?_ ?_
         rotate_left
         · simp only [Act.put, List.setIfInBounds_toArray, List.set_cons_zero, List.set_cons_succ, zpb, zzb]
           rfl
         refine zxc (i := 5) (N := some 21) (v := undef) (a' := ?_) #[true, true, true, true, true, true, false, false, false, false, false, false, false, false, false] rfl rfl (zyb HT_.out (by kernel_rfl)) (fun _ _ _ h => h) (Or.inr ⟨by rfl, rfl⟩) ?_ ?_
         rotate_left
         · simp only [Act.put, List.setIfInBounds_toArray, List.set_cons_zero, List.set_cons_succ, zpb, zzb]
           rfl
         refine zxc (i := 6) (N := some 22) (v := undef) (a' := ?_) #[true, true, true, true, true, true, true, false, false, false, false, false, false, false, false] rfl rfl (zyb HT_.out (by kernel_rfl)) (fun _ _ _ h => h) (Or.inr ⟨by rfl, rfl⟩) ?_ ?_
         rotate_left
         · simp only [Act.put, List.setIfInBounds_toArray, List.set_cons_zero, List.set_cons_succ, zpb, zzb]
           rfl
         refine zxc (i := 7) (N := some 23) (v := undef) (a' := ?_) #[true, true, true, true, true, true, true, true, false, false, false, false, false, false, false] rfl rfl (zyb HT_.out (by kernel_rfl)) (fun _ _ _ h => h) (Or.inr ⟨by rfl, rfl⟩) ?_ ?_
         rotate_left
         · simp only [Act.put, List.setIfInBounds_toArray, List.set_cons_zero, List.set_cons_succ, zpb, zzb]
           rfl
         refine zxc (i := 8) (N := some 24) (v := undef) (a' := ?_) #[true, true, true, true, true, true, true, true, true, false, false, false, false, false, false] rfl rfl (zyb HT_.out (by kernel_rfl)) (fun _ _ _ h => h) (Or.inr ⟨by rfl, rfl⟩) ?_ ?_
         rotate_left
         · simp only [Act.put, List.setIfInBounds_toArray, List.set_cons_zero, List.set_cons_succ, zpb, zzb]
           rfl
         refine zxc (i := 9) (N := some 25) (v := undef) (a' := ?_) #[true, true, true, true, true, true, true, true, true, true, false, false, false, false, false] rfl rfl (zyb HT_.out (by kernel_rfl)) (fun _ _ _ h => h) (Or.inr ⟨by rfl, rfl⟩) ?_ ?_
         rotate_left
         · simp only [Act.put, List.setIfInBounds_toArray, List.set_cons_zero, List.set_cons_succ, zpb, zzb]
           rfl
         refine zxc (i := 10) (N := some 26) (v := undef) (a' := ?_) #[true, true, true, true, true, true, true, true, true, true, true, false, false, false, false] rfl rfl (zyb HT_.out (by kernel_rfl)) (fun _ _ _ h => h) (Or.inr ⟨by rfl, rfl⟩) ?_ ?_
         rotate_left
         · simp only [Act.put, List.setIfInBounds_toArray, List.set_cons_zero, List.set_cons_succ, zpb, zzb]
           rfl
         refine zxc (i := 11) (N := some 27) (v := undef) (a' := ?_) #[true, true, true, true, true, true, true, true, true, true, true, true, false, false, false] rfl rfl (zyb HT_.out (by kernel_rfl)) (fun _ _ _ h => h) (Or.inr ⟨by rfl, rfl⟩) ?_ ?_
         rotate_left
         · simp only [Act.put, List.setIfInBounds_toArray, List.set_cons_zero, List.set_cons_succ, zpb, zzb]
           rfl
         refine zxc (i := 12) (N := some 28) (v := undef) (a' := ?_) #[true, true, true, true, true, true, true, true, true, true, true, true, true, false, false] rfl rfl (zyb HT_.out (by kernel_rfl)) (fun _ _ _ h => h) (Or.inr ⟨by rfl, rfl⟩) ?_ ?_
         rotate_left
         · simp only [Act.put, List.setIfInBounds_toArray, List.set_cons_zero, List.set_cons_succ, zpb, zzb]
           rfl
         refine zxc (i := 13) (N := some 29) (v := undef) (a' := ?_) #[true, true, true, true, true, true, true, true, true, true, true, true, true, true, false] rfl rfl (zyb HT_.out (by kernel_rfl)) (fun _ _ _ h => h) (Or.inr ⟨by rfl, rfl⟩) ?_ ?_
         rotate_left
         · simp only [Act.put, List.setIfInBounds_toArray, List.set_cons_zero, List.set_cons_succ, zpb, zzb]
           rfl
         refine zxc (i := 14) (N := some 30) (v := ?_) (a' := ?_) #[true, true, true, true, true, true, true, true, true, true, true, true, true, true, true] rfl rfl (zyb HT_.out (by kernel_rfl)) (fun _ _ _ h => h) (Or.inl ⟨by rfl, ?_⟩) ?_ ?_
         rotate_left
         · intro w'
           go_simp
           with_reducible rfl
         rotate_left
         · simp only [Act.put, List.setIfInBounds_toArray, List.set_cons_zero, List.set_cons_succ, zpb, zzb]
           rfl
         refine done_ (done_of HT_.out (by kernel_rfl)) ?_
         try go_wp2
         go_roundg k2
         case measure => have := HK1.out; have := HK2.out; omega
         case rel => exact ⟨(x0_2), (wrap64 (x6_1 + 1)), (by first | rfl | (simp; done) | (simp [*]; done)), H', ⟨by have := HK1.out; have := HK2.out; omega⟩, ⟨by (with_reducible repeat (first | apply Kd.zqa | apply Kd.zpa | apply Kd.zsa)); exact HO_0.out⟩, ⟨by repeat (first | (with_reducible first | exact HK.out | apply Kept.alloc | apply Kept.drewN | apply Kept.drew) | exact HK.out)⟩, ⟨by repeat (first | (with_reducible first | exact HB.out | apply zda | apply zba | apply zca) | exact HB.out)⟩⟩
   · rw [if_neg c4] at H
     have c4b0 : decide (x6_1 < a2) = false := decide_eq_false c4
     clear c4
     obtain rfl := Option.some.inj H
     go_wp2
     first | go_end0 | ((try simp only [Exit.inBlock, Exit.then]); refine bodyPost_ret (results_none rfl _ _ _) rfl ?_)
     exact ⟨by first | rfl | (simp [zwa, zva] <;> rfl) | (simp [*, zwa, zva] <;> rfl), by (with_reducible repeat (first | apply Kd.zqa | apply Kd.zpa | apply Kd.zsa)); exact HO_0.out, by repeat (first | (with_reducible first | exact HB.out | apply zda | apply zba | apply zca) | exact HB.out), by repeat (first | (with_reducible first | exact HK.out | apply Kept.alloc | apply Kept.drewN | apply Kept.drew) | exact HK.out)⟩
end Go.Proofs.YtoacbkoenkiahaaGreat.PTopGluePlate
end
section
namespace Go.Proofs.YtoacbkoenkiahaaGreat.PTopGluePlate
open Go.RowKit Go.Proofs.YtoacbkoenkiahaaGreatW.PrintWords Go.Proofs.YtoacbkoenkiahaaGreatW.PrintLast Go.Proofs.YtoacbkoenkiahaaGreatW.PrintMore
attribute [local go_sem] znb zlb zhc zgc zeb zdb zmb zkb
set_option linter.unusedVariables false
set_option linter.unusedSimpArgs false
def ztc.l0 : Nat → List Int → Int → Int → Int → Bool → Option (List Int)
 | 0, _, _, _, _, _ => none
 | k + 1, x0, x1, x2, x3, x8 => if (wrap64 (x2 - x1)) ≤ 12 then ((zra.f k x0 x1 x2).bind fun t353 => (some t353)) else (if x3 = 0 then (none) else (if x8 = true then (none) else (none)))
def ztc.f (k : Nat) (l0 : List Int) (a1 : Int) (a2 : Int) (a3 : Int) : Option (List Int) := ztc.l0 k l0 a1 a2 a3 true
set_option maxHeartbeats 8000000 in
set_option maxRecDepth 100000 in
theorem ztc.calls (k : Nat) (P0_ : Nat → Prop) (u9000_ : Value) (l0 : List Int) (a1 : Int) (a2 : Int) (a3 : Int) (r : List Int) (w0 w : World) (hB : Below w0.heap.size w0 w) (ho0 : Kd.R (Kd.int .i64) 3 w w0.heap.size P0_ u9000_ l0) (h : ztc.f k l0 a1 a2 a3 = some r) :
 Calls Tryz.prog 91 #[u9000_, .int .i64 a1, .int .i64 a2, .int .i64 a3] w fun e w' => e = .returned (.tuple #[]) ∧ Kd.R (Kd.int .i64) 3 w' w0.heap.size (fun k_ => (P0_ k_ ∨ w.heap.size ≤ k_)) u9000_ r ∧ Below w0.heap.size w0 w' ∧ Kept w w' (fun k_ => P0_ k_) := by
 have HO0 := zaa.mk (show Kd.R (Kd.int .i64) 3 w w0.heap.size (fun k_ => (P0_ k_ ∨ w.heap.size ≤ k_)) u9000_ l0 from Kd.zsd ho0 (fun k_ hk => (.inl hk)))
 have HK := zaa.mk (Kept.refl w (fun k_ => P0_ k_))
 have HW0 := zaa.mk hB.size
 have HB := zaa.mk hB
 clear hB
 have H : (ztc.l0 k l0 a1 a2 a3 true) = some r := h
 clear h
 have H' := zaa.mk H
 clear H
 go_enter Tryz.func91, Tryz.ntmps91
 go_wp2
 repeat (go_quiet (fail); try go_wp2)
 go_loopg [1, 2, 3, 8] k (fun kq v1 v2 v3 v8 w' => ∃ (x0_1 : List Int) (x1_1 : Int) (x2_1 : Int) (x3_1 : Int) (x8_1 : Bool), v1 = .int .i64 x1_1 ∧ v2 = .int .i64 x2_1 ∧ v3 = .int .i64 x3_1 ∧ v8 = .bool x8_1 ∧ zaa (ztc.l0 kq x0_1 x1_1 x2_1 x3_1 x8_1 = some r) ∧ zaa (kq ≤ k) ∧ zaa (Kd.R (Kd.int .i64) 3 w' w0.heap.size (fun k_ => (P0_ k_ ∨ w.heap.size ≤ k_)) u9000_ x0_1) ∧ zaa (Kept w w' (fun k_ => P0_ k_)) ∧ zaa (Below w0.heap.size w0 w'))
 case atStart => exact ⟨(l0), (a1), (a2), (a3), (true), (by first | rfl | (simp; done) | (simp [*]; done)), (by first | rfl | (simp; done) | (simp [*]; done)), (by first | rfl | (simp; done) | (simp [*]; done)), (by first | rfl | (simp; done) | (simp [*]; done)), H', ⟨Nat.le_refl _⟩, ⟨by (with_reducible repeat (first | apply Kd.zqa | apply Kd.zpa | apply Kd.zsa)); exact HO0.out⟩, ⟨by repeat (first | (with_reducible first | exact HK.out | apply Kept.alloc | apply Kept.drewN | apply Kept.drew) | exact HK.out)⟩, ⟨by repeat (first | (with_reducible first | exact HB.out | apply zda | apply zba | apply zca) | exact HB.out)⟩⟩
 case round =>
  clear H'
  try clear p2
  obtain ⟨x0_1, x1_1, x2_1, x3_1, x8_1, rfl, rfl, rfl, rfl, HA, HK1, HO_0, HK, HB⟩ := hrel
  cases gk with
  | zero => exact absurd HA.out (by simp [ztc.l0])
  | succ k1 =>
   have H := HA.out
   clear HA
   simp only [ztc.l0] at H
   by_cases c5 : (wrap64 (x2_1 - x1_1)) ≤ 12
   · rw [if_pos c5] at H
     have c5b0 : decide ((wrap64 (x2_1 - x1_1)) ≤ 12) = true := decide_eq_true c5
     clear c5
     replace H := Option.bind_eq_some_iff.mp H
     obtain ⟨t353, A60, H⟩ := H
     replace H : (some t353) = some r := H
     have A6 := zaa.mk A60
     clear A60
     obtain rfl := Option.some.inj H
     obtain ⟨Ao7, co7, eo7⟩ := Kd.zfd HO_0.out
     subst eo7
     go_wp2_with (first | (go_at_call 93; (with_reducible refine (zra.calls k1 (fun k_ => some k_ = (.slice Ao7 x0_1.length co7 : Value).ownBlock) (.slice Ao7 x0_1.length co7) x0_1 x1_1 x2_1 t353 w0 _ ?side1 ?side2 A6.out).mono ?_); (case side1 => repeat (first | (with_reducible first | exact HB.out | apply zda | apply zba | apply zca) | exact HB.out)); (case side2 => exact Kd.R_tight rfl HO_0.out); rintro e w8 ⟨rfl, hy0, hb, hkp⟩; replace HK := zaa.mk (Kept.then_ (S := (fun k_ => P0_ k_)) (by repeat (first | (with_reducible first | exact HK.out | apply Kept.alloc | apply Kept.drewN | apply Kept.drew) | exact HK.out)) hkp (fun k_ hs_ => (fun e_ => (HO_0.out.1 k_ e_.symm)) hs_)); replace HO_0 := zaa.mk (Kd.R_reok rfl hy0 (fun k_ e_ => HO_0.out.1 k_ e_)); replace HB := zaa.mk (hb); (try clear hb); (try clear hkp); (try clear hy0)))
     repeat (go_quiet (first | (go_at_call 93; (with_reducible refine (zra.calls k1 (fun k_ => some k_ = (.slice Ao7 x0_1.length co7 : Value).ownBlock) (.slice Ao7 x0_1.length co7) x0_1 x1_1 x2_1 t353 w0 _ ?side1 ?side2 A6.out).mono ?_); (case side1 => repeat (first | (with_reducible first | exact HB.out | apply zda | apply zba | apply zca) | exact HB.out)); (case side2 => exact Kd.R_tight rfl HO_0.out); rintro e w8 ⟨rfl, hy0, hb, hkp⟩; replace HK := zaa.mk (Kept.then_ (S := (fun k_ => P0_ k_)) (by repeat (first | (with_reducible first | exact HK.out | apply Kept.alloc | apply Kept.drewN | apply Kept.drew) | exact HK.out)) hkp (fun k_ hs_ => (fun e_ => (HO_0.out.1 k_ e_.symm)) hs_)); replace HO_0 := zaa.mk (Kd.R_reok rfl hy0 (fun k_ e_ => HO_0.out.1 k_ e_)); replace HB := zaa.mk (hb); (try clear hb); (try clear hkp); (try clear hy0))); try go_wp2_with (first | (go_at_call 93; (with_reducible refine (zra.calls k1 (fun k_ => some k_ = (.slice Ao7 x0_1.length co7 : Value).ownBlock) (.slice Ao7 x0_1.length co7) x0_1 x1_1 x2_1 t353 w0 _ ?side1 ?side2 A6.out).mono ?_); (case side1 => repeat (first | (with_reducible first | exact HB.out | apply zda | apply zba | apply zca) | exact HB.out)); (case side2 => exact Kd.R_tight rfl HO_0.out); rintro e w8 ⟨rfl, hy0, hb, hkp⟩; replace HK := zaa.mk (Kept.then_ (S := (fun k_ => P0_ k_)) (by repeat (first | (with_reducible first | exact HK.out | apply Kept.alloc | apply Kept.drewN | apply Kept.drew) | exact HK.out)) hkp (fun k_ hs_ => (fun e_ => (HO_0.out.1 k_ e_.symm)) hs_)); replace HO_0 := zaa.mk (Kd.R_reok rfl hy0 (fun k_ e_ => HO_0.out.1 k_ e_)); replace HB := zaa.mk (hb); (try clear hb); (try clear hkp); (try clear hy0))))
     first | go_end0 | ((try simp only [Exit.inBlock, Exit.then]); refine bodyPost_ret (results_none rfl _ _ _) rfl ?_)
     exact ⟨by first | rfl | (simp [zwa, zva] <;> rfl) | (simp [*, zwa, zva] <;> rfl), by (with_reducible repeat (first | apply Kd.zqa | apply Kd.zpa | apply Kd.zsa)); exact HO_0.out, by repeat (first | (with_reducible first | exact HB.out | apply zda | apply zba | apply zca) | exact HB.out), by repeat (first | (with_reducible first | exact HK.out | apply Kept.alloc | apply Kept.drewN | apply Kept.drew) | exact HK.out)⟩
   · rw [if_neg c5] at H
     have c5b0 : decide ((wrap64 (x2_1 - x1_1)) ≤ 12) = false := decide_eq_false c5
     clear c5
     by_cases c9 : x3_1 = 0
     · rw [if_pos c9] at H
       exact absurd H (by simp)
     · rw [if_neg c9] at H
       have c9b0 : (x3_1 == 0) = false := beq_eq_false_iff_ne.mpr c9
       have c9b1 : (x3_1 != 0) = true := bne_iff_ne.mpr c9
       by_cases c10 : x8_1 = true
       · subst c10
         have H1 : (none) = some r := by rw [if_pos rfl] at H; exact H
         clear H
         have H := H1
         clear H1
         exact absurd H (by simp)
       · replace c10 := Bool.eq_false_iff.mpr c10
         subst c10
         have H1 : (none) = some r := by rw [if_neg (show ¬ (false = true) by decide)] at H; exact H
         clear H
         have H := H1
         clear H1
         exact absurd H (by simp)
end Go.Proofs.YtoacbkoenkiahaaGreat.PTopGluePlate
end
section
namespace Go.Proofs.YtoacbkoenkiahaaGreat.PTopGluePlate
open Go.RowKit Go.Proofs.YtoacbkoenkiahaaGreatW.PrintWords Go.Proofs.YtoacbkoenkiahaaGreatW.PrintLast Go.Proofs.YtoacbkoenkiahaaGreatW.PrintMore
attribute [local go_sem] znb zlb zhc zgc zeb zdb zmb zkb
set_option linter.unusedVariables false
set_option linter.unusedSimpArgs false
set_option maxRecDepth 100000 in
theorem bits_Len64.at1 (w : World) : Calls Tryz.prog 102 #[.int .u64 1] w fun e w' => e = .returned (.int .i64 1) ∧ zjc w w' := by
 go_enter Tryz.func102, Tryz.ntmps102
 go_wp2
 go_ret
 exact ⟨by kernel_rfl, ⟨0, rfl⟩⟩
set_option maxRecDepth 100000 in
theorem bits_Len64.at2 (w : World) : Calls Tryz.prog 102 #[.int .u64 2] w fun e w' => e = .returned (.int .i64 2) ∧ zjc w w' := by
 go_enter Tryz.func102, Tryz.ntmps102
 go_wp2
 go_ret
 exact ⟨by kernel_rfl, ⟨0, rfl⟩⟩
def bits_Len.f (a0 : Int) : Option Int := if a0 = 1 then some 1 else if a0 = 2 then some 2 else none
theorem bits_Len.calls (a0 : Int) (r : Int) (w : World) (h : bits_Len.f a0 = some r) :
 Calls Tryz.prog 92 #[.int .u64 a0] w fun e w' => e = .returned (.int .i64 r) ∧ zjc w w' := by
 unfold bits_Len.f at h
 split at h
 · rename_i e1
   injection h with h
   subst e1 h
   go_enter Tryz.func92, Tryz.ntmps92
   go_wp2_with (go_at_call 102; refine (bits_Len64.at1 _).mono ?_; rintro e w' ⟨rfl, ⟨nd, rfl⟩⟩)
   go_ret
   exact ⟨rfl, ⟨_, rfl⟩⟩
 · split at h
   · rename_i e1
     injection h with h
     subst e1 h
     go_enter Tryz.func92, Tryz.ntmps92
     go_wp2_with (go_at_call 102; refine (bits_Len64.at2 _).mono ?_; rintro e w' ⟨rfl, ⟨nd, rfl⟩⟩)
     go_ret
     exact ⟨rfl, ⟨_, rfl⟩⟩
   · cases h
end Go.Proofs.YtoacbkoenkiahaaGreat.PTopGluePlate
end
section
namespace Go.Proofs.YtoacbkoenkiahaaGreat.PTopGluePlate
open Go.RowKit Go.Proofs.YtoacbkoenkiahaaGreatW.PrintWords Go.Proofs.YtoacbkoenkiahaaGreatW.PrintLast Go.Proofs.YtoacbkoenkiahaaGreatW.PrintMore
attribute [local go_sem] znb zlb zhc zgc zeb zdb zmb zkb
set_option linter.unusedVariables false
set_option linter.unusedSimpArgs false
def slices_Sort_int_int.f (k : Nat) (l0 : List Int) : Option (List Int) := (bits_Len.f (IntKind.u64.wrap ((l0.length : Int)))).bind fun t354 => ((ztc.f k l0 0 (l0.length : Int) t354).bind fun t355 => (some t355))
set_option maxHeartbeats 8000000 in
set_option maxRecDepth 100000 in
theorem slices_Sort_int_int.calls (k : Nat) (P0_ : Nat → Prop) (u9000_ : Value) (l0 : List Int) (r : List Int) (w0 w : World) (hB : Below w0.heap.size w0 w) (ho0 : Kd.R (Kd.int .i64) 3 w w0.heap.size P0_ u9000_ l0) (h : slices_Sort_int_int.f k l0 = some r) :
 Calls Tryz.prog 86 #[u9000_] w fun e w' => e = .returned (.tuple #[]) ∧ Kd.R (Kd.int .i64) 3 w' w0.heap.size (fun k_ => (P0_ k_ ∨ w.heap.size ≤ k_)) u9000_ r ∧ Below w0.heap.size w0 w' ∧ Kept w w' (fun k_ => P0_ k_) := by
 have HO0 := zaa.mk (show Kd.R (Kd.int .i64) 3 w w0.heap.size (fun k_ => (P0_ k_ ∨ w.heap.size ≤ k_)) u9000_ l0 from Kd.zsd ho0 (fun k_ hk => (.inl hk)))
 have HK := zaa.mk (Kept.refl w (fun k_ => P0_ k_))
 have HW0 := zaa.mk hB.size
 have HB := zaa.mk hB
 clear hB
 have H : ((bits_Len.f (IntKind.u64.wrap ((l0.length : Int)))).bind fun t354 => ((ztc.f k l0 0 (l0.length : Int) t354).bind fun t355 => (some t355))) = some r := h
 clear h
 replace H := Option.bind_eq_some_iff.mp H
 obtain ⟨t354, A20, H⟩ := H
 replace H : ((ztc.f k l0 0 (l0.length : Int) t354).bind fun t355 => (some t355)) = some r := H
 have A2 := zaa.mk A20
 clear A20
 replace H := Option.bind_eq_some_iff.mp H
 obtain ⟨t355, A30, H⟩ := H
 replace H : (some t355) = some r := H
 have A3 := zaa.mk A30
 clear A30
 obtain rfl := Option.some.inj H
 obtain ⟨Ao4, co4, eo4⟩ := Kd.zfd HO0.out
 subst eo4
 go_enter Tryz.func86, Tryz.ntmps86
 go_wp2_with (first | ((with_reducible refine zxa (f := 92) rfl ?_); refine zhd (some 9) rfl rfl Tryz.func92 (by kernel_rfl) rfl #[.int .u64 (IntKind.u64.wrap ((l0.length : Int)))] rfl (by (try simp only [List.map_toArray, List.map_cons, List.map_nil]); first | done | rfl | (simp only [List.length_drop, List.length_take]; rfl)) ?_; (with_reducible refine (bits_Len.calls (IntKind.u64.wrap ((l0.length : Int))) t354 _ A2.out).mono ?_); rintro e w' ⟨rfl, ⟨nd, rfl⟩⟩; refine ⟨_, rfl, ?_⟩) | ((with_reducible refine zxa (f := 91) rfl ?_); refine zhd (some 10) rfl rfl Tryz.func91 (by kernel_rfl) rfl #[.slice Ao4 l0.length co4, .int .i64 0, .int .i64 (l0.length : Int), .int .i64 t354] rfl (by (try simp only [List.map_toArray, List.map_cons, List.map_nil]); first | done | rfl | (simp only [List.length_drop, List.length_take]; rfl)) ?_; (with_reducible refine (ztc.calls k (fun k_ => some k_ = (.slice Ao4 l0.length co4 : Value).ownBlock) (.slice Ao4 l0.length co4) l0 0 (l0.length : Int) t354 t355 w0 _ ?side1 ?side2 A3.out).mono ?_); (case side1 => repeat (first | (with_reducible first | exact HB.out | apply zda | apply zba | apply zca) | exact HB.out)); (case side2 => exact Kd.R_tight rfl HO0.out); rintro e w5 ⟨rfl, hy0, hb, hkp⟩; refine ⟨_, rfl, ?_⟩; replace HK := zaa.mk (Kept.then_ (S := (fun k_ => P0_ k_)) (by repeat (first | (with_reducible first | exact HK.out | apply Kept.alloc | apply Kept.drewN | apply Kept.drew) | exact HK.out)) hkp (fun k_ hs_ => (fun e_ => (HO0.out.1 k_ e_.symm)) hs_)); replace HO0 := zaa.mk (Kd.R_reok rfl hy0 (fun k_ e_ => HO0.out.1 k_ e_)); replace HB := zaa.mk (hb); (try clear hb); (try clear hkp); (try clear hy0)))
 first | go_end0 | ((try simp only [Exit.inBlock, Exit.then]); refine bodyPost_ret (results_none rfl _ _ _) rfl ?_)
 exact ⟨by first | rfl | (simp [zwa, zva] <;> rfl) | (simp [*, zwa, zva] <;> rfl), by (with_reducible repeat (first | apply Kd.zqa | apply Kd.zpa | apply Kd.zsa)); exact HO0.out, by repeat (first | (with_reducible first | exact HB.out | apply zda | apply zba | apply zca) | exact HB.out), by repeat (first | (with_reducible first | exact HK.out | apply Kept.alloc | apply Kept.drewN | apply Kept.drew) | exact HK.out)⟩
end Go.Proofs.YtoacbkoenkiahaaGreat.PTopGluePlate
end
section
namespace Go.Proofs.YtoacbkoenkiahaaGreat.PTopGluePlate
open Go.RowKit Go.Proofs.YtoacbkoenkiahaaGreatW.PrintWords Go.Proofs.YtoacbkoenkiahaaGreatW.PrintLast Go.Proofs.YtoacbkoenkiahaaGreatW.PrintMore
attribute [local go_sem] znb zlb zhc zgc zeb zdb zmb zkb
set_option linter.unusedVariables false
set_option linter.unusedSimpArgs false
attribute [local go_sem] Oper.semAt_some
def upto_ {α : Type} (f : Nat → α) (k : Nat) : List α := (List.range k).map f
theorem upto_succ {α : Type} (f : Nat → α) (k : Nat) : upto_ f (k + 1) = upto_ f k ++ [f k] := by simp [upto_, List.range_succ]
theorem upto_length {α : Type} (f : Nat → α) (k : Nat) : (upto_ f k).length = k := by simp [upto_]
theorem upto_all (zs : List Int) : upto_ (fun j => zs[j]?.getD 0) zs.length = zs := by
 apply List.ext_getElem
 · simp [upto_]
 · intro i h1 h2
   simp [upto_, h2]
theorem upto_take (zs : List Int) {k : Nat} (hk : k ≤ zs.length) : upto_ (fun j => zs[j]?.getD 0) k = zs.take k := by
 apply List.ext_getElem
 · simp [upto_, hk]
 · intro i h1 h2
   have : i < zs.length := by simp [upto_] at h1; omega
   simp [upto_, this]
def IntsAt (n₀ : Nat) (W : World) (sv : Value) (zs : List Int) : Prop :=
 (sv = .slice none 0 0 ∧ zs = []) ∨ ∃ b off cap, sv = .slice (some ⟨b, off, none⟩) zs.length cap ∧ b < n₀ ∧ ∀ j, j < zs.length → W.cell? ⟨b, off + j, none⟩ = some (.int .i64 (zs[j]?.getD 0))
theorem IntsAt.below {n₀ : Nat} {A B : World} (h : Below n₀ A B) {sv : Value} {zs : List Int} : IntsAt n₀ A sv zs → IntsAt n₀ B sv zs
 | .inl e => .inl e
 | .inr ⟨b, off, cap, e, hb, hc⟩ => .inr ⟨b, off, cap, e, hb, fun j hj => (h.cell (p := ⟨b, off + j, none⟩) hb).trans (hc j hj)⟩
set_option maxRecDepth 100000 in
set_option maxHeartbeats 2000000 in
theorem slices_Values.step_in (F : Fence) (n : Nat) (h7 : F.fn 87) (hro : F.round = none) (hn : 1 ≤ n) (l Bs n₀ b off len cap : Nat) (zs : List Int) (hreach : len * 8 ≤ 140737488351232) (hb : b < n₀) (J Jx : List Int → World → Prop)
 (hY : ∀ pre x W, J pre W → pre.length < len → YieldAt F (n - 1) Tryz.prog l #[.int .i64 x] W fun e W' =>
  (e = .returned (.bool true) ∧ J (pre ++ [x]) W' ∧ Below n₀ W W') ∨ (e = .returned (.bool false) ∧ Jx (pre ++ [x]) W'))
 (W : World) (hBs : W.cell? ⟨Bs, 0, none⟩ = some (.slice (some ⟨b, off, none⟩) len cap)) (hc : ∀ j, j < len → W.cell? ⟨b, off + j, none⟩ = some (.int .i64 (zs[j]?.getD 0))) (h0 : J [] W) :
 CallsIn F n Tryz.prog 87 #[.func (.yield l) #[] #[], .pointer (some ⟨Bs, 0, none⟩)] W fun e W' => (∃ v, e = .returned v) ∧
  ((∃ ys, ys = upto_ (fun j => zs[j]?.getD 0) len ∧ J ys W') ∨ (∃ pre, (∃ k, k ≤ len ∧ pre = upto_ (fun j => zs[j]?.getD 0) k) ∧ Jx pre W')) := by
 refine callsIn_of_wp Tryz.func87 rfl h7 ?_ hro
 simp only [Tryz.ntmps87, List.size_toArray, List.length_cons, List.length_nil, Nat.reduceAdd, Nat.reduceSub, Array.replicate_succ, Array.replicate_zero, List.push_toArray, List.append_toArray, List.nil_append, List.cons_append]
 gi_wp2
 gi_loopw [7] (fun i wr => ∃ k : Nat, k ≤ len ∧ i = .int .i64 k ∧ J (upto_ (fun j => zs[j]?.getD 0) k) wr ∧ Below n₀ W wr)
  (fun i _ => len - (intOf i).toNat)
 case atStart => exact ⟨0, Nat.zero_le _, rfl, h0, Below.refl _ _⟩
 case round =>
  obtain ⟨k, hk, rfl, hJs, hnx⟩ := hrel
  have hcx : k < len → wr.cell? ⟨b, off + k, none⟩ = some (.int .i64 (zs[k]?.getD 0)) := fun h => (hnx.cell (p := ⟨b, off + k, none⟩) hb).trans (hc k h)
  by_cases hlt : k < len
  · obtain ⟨fn, tmps, assign, body, hy, hR⟩ := hY _ (zs[k]?.getD 0) wr hJs (by rw [upto_length]; exact hlt)
    have hcx' := hcx hlt
    gi_wp2
    refine hR.mono ?_
    rintro e W3 (⟨rfl, hJ3, hk3⟩ | ⟨rfl, hJx3⟩)
    · gi_wp2
      go_roundw
      case rel => exact ⟨k + 1, by omega, by simp, by rw [upto_succ]; exact hJ3, hnx.trans hk3⟩
      case measure => simp [intOf]; omega
    · gi_wp2
      refine bodyPost_ret (results_none rfl _ _ _) rfl ?_
      exact ⟨⟨_, rfl⟩, .inr ⟨_, ⟨k + 1, by omega, (upto_succ _ _).symm⟩, hJx3⟩⟩
  · obtain rfl : k = len := by omega
    gi_wp2
    go_end0
    exact ⟨⟨_, rfl⟩, .inl ⟨_, rfl, hJs⟩⟩
set_option maxHeartbeats 1000000 in
theorem slices_Values.nil_in (F : Fence) (n : Nat) (h7 : F.fn 87) (hro : F.round = none) (l Bs : Nat) (J : List Int → World → Prop) (W : World) (hBs : W.cell? ⟨Bs, 0, none⟩ = some (.slice none 0 0)) (h0 : J [] W) :
 CallsIn F n Tryz.prog 87 #[.func (.yield l) #[] #[], .pointer (some ⟨Bs, 0, none⟩)] W fun e W' => (∃ v, e = .returned v) ∧ J [] W' := by
 refine callsIn_of_wp Tryz.func87 rfl h7 ?_ hro
 simp only [Tryz.ntmps87, List.size_toArray, List.length_cons, List.length_nil, Nat.reduceAdd, Nat.reduceSub, Array.replicate_succ, Array.replicate_zero, List.push_toArray, List.append_toArray, List.nil_append, List.cons_append]
 gi_wp2
 gi_loopw [7] (fun i wr => i = .int .i64 0 ∧ J [] wr) (fun _ _ => 0)
 case atStart => exact ⟨rfl, h0⟩
 case round =>
  obtain ⟨rfl, hJs⟩ := hrel
  gi_wp2
  go_end0
  exact ⟨⟨_, rfl⟩, hJs⟩
set_option maxHeartbeats 1000000 in
theorem slices_Values.calls_in (F : Fence) (n : Nat) (h5 : F.fn 75) (hro : F.round = none) (a : Option Addr) (len cap : Nat) (w : World) :
 CallsIn F n Tryz.prog 75 #[.slice a len cap] w fun e w' => e = .returned (.func (.func 87) #[] #[.pointer (some ⟨w.heap.size, 0, none⟩)]) ∧ w' = w.alloc (.cells #[.slice a len cap] 24) := by
 refine callsIn_of_wp Tryz.func75 rfl h5 ?_ hro
 simp only [Tryz.ntmps75, List.size_toArray, List.length_cons, List.length_nil, Nat.reduceAdd, Nat.reduceSub, Array.replicate_succ, Array.replicate_zero, List.push_toArray, List.append_toArray, List.nil_append, List.cons_append]
 gi_wp2
 go_ret
 exact ⟨rfl, rfl⟩
theorem slices_Values.stops (F : Fence) (n : Nat) (h7 : F.fn 87) (hro : F.round = none) (hn : 1 ≤ n) (Bs n₀ : Nat) (sv : Value) (zs : List Int) (hreach : zs.length * 8 ≤ 140737488351232) (w : World) (hBs : Bs < w.heap.size) (hn₀ : n₀ ≤ w.heap.size)
 (hc : w.cell? ⟨Bs, 0, none⟩ = some sv) (hI : IntsAt n₀ w sv zs) :
 SeqStopsK F n Tryz.prog 87 #[.pointer (some ⟨Bs, 0, none⟩)] (fun x : Int => #[Value.int .i64 x]) (Below n₀) (fun ys => ys = zs) (fun pre => pre <+: zs) zs.length w := fun l J Jx W hW _ _ hY h0 => by
 have hc' := (hW.cell (p := ⟨Bs, 0, none⟩) hBs).trans hc
 rcases hI.below (hW.mono hn₀) with ⟨rfl, rfl⟩ | ⟨b, off, cap, rfl, hb, hcs⟩
 · exact (slices_Values.nil_in F n h7 hro l Bs J W hc' h0).mono fun e W' ⟨he, hj⟩ => ⟨he, .inl ⟨_, rfl, hj⟩⟩
 · refine (slices_Values.step_in F n h7 hro hn l Bs n₀ b off zs.length cap zs hreach hb J Jx hY W hc' hcs h0).mono ?_
   rintro e W' ⟨he, ⟨ys, rfl, hj⟩ | ⟨pre, ⟨k, hk, rfl⟩, hj⟩⟩
   · exact ⟨he, .inl ⟨_, upto_all zs, hj⟩⟩
   · exact ⟨he, .inr ⟨_, by rw [upto_take zs hk]; exact List.take_prefix _ _, hj⟩⟩
theorem slices_AppendSeq.info_int : (Tryz.prog.info? 3).map (fun i => (i.zero, i.size, i.bytes)) = some (some (.int .i64 0), 1, 8) := by kernel_rfl
set_option maxRecDepth 100000 in
set_option maxHeartbeats 2000000 in
theorem slices_AppendSeq.values_in (n : Nat) (hn : 2 ≤ n) (Bs : Nat) (sv : Value) (zs : List Int) (hlen : zs.length ≤ 1000000) (w : World) (hBs : Bs < w.heap.size) (hcB : w.cell? ⟨Bs, 0, none⟩ = some sv) (hI : IntsAt w.heap.size w sv zs) :
 CallsIn Fence.wide n Tryz.prog 90 #[.slice none 0 0, .func (.func 87) #[] #[.pointer (some ⟨Bs, 0, none⟩)]] w fun e W' => ∃ v, e = .returned v ∧ W'.ownsRow w.heap.size 3 1 v zs.length (zs.map (Value.int .i64)) ∧ Below w.heap.size w W' := by
 have h1 : 1 ≤ n := by omega
 obtain ⟨i0, hi, hz0, hz1, hz2⟩ := info_parts slices_AppendSeq.info_int
 refine callsIn_of_wp_marks Tryz.func90 rfl trivial ?_ rfl
 simp only [Tryz.ntmps90, List.size_toArray, List.length_cons, List.length_nil, Nat.reduceAdd, Nat.reduceSub, Array.replicate_succ, Array.replicate_zero, List.push_toArray, List.append_toArray, List.nil_append, List.cons_append]
 gi_wp2
 have bO := Boxed.new w 24 (.slice none 0 0)
 have hB0 : Below w.heap.size w (w.alloc (.cells #[.slice none 0 0] 24)) := (Below.refl _ w).alloc (Nat.le_refl _) _
 refine wpIn_rangeFunc_ownG rfl h1 (gf := 87) (lb := #[.pointer (some ⟨Bs, 0, none⟩)]) rfl trivial (enters_of Tryz.func87 (by kernel_rfl) rfl)
  (slices_Values.stops Fence.wide (n - 1) trivial rfl (by omega) Bs w.heap.size sv zs (by omega) _ (by simp; omega) (by simp) ((hB0.cell (p := ⟨Bs, 0, none⟩) hBs).trans hcB) (hI.below hB0)) belowK_t (belowK_b (by simp)) (Below.refl _ _) (fun _ => rfl)
  (fun pre W => (∃ v, Boxed W w.heap.size 24 v ∧ W.ownsRow w.heap.size 3 1 v pre.length (pre.map (Value.int .i64)) ∧ True) ∧ Below w.heap.size w W)
  (fun _ _ _ => False)
  (OwnFrom.and (Own.from (holdsRow_own w.heap.size w.heap.size 24 3 1 (fun pre : List Int => pre.length) (fun pre => pre.map (Value.int .i64)) (fun _ _ => True)) _) (ownFrom_below (Nat.le_refl _) (by simp)))
  (fun _ _ _ _ _ hs _ _ => hs)
  ⟨⟨_, bO, World.ownsRow_nil _ _ _ _, trivial⟩, hB0⟩
  (fun x => { tmps := #[.slice none 0 0, .func (.func 87) #[] #[.pointer (some ⟨Bs, 0, none⟩)], .pointer (some ⟨w.heap.size, 0, none⟩), undef, .slice none 0 0, .int .i64 x, .func (.func 87) #[] #[.pointer (some ⟨Bs, 0, none⟩)], .int .i64 x, undef, undef, undef, undef, undef], defers := [] }) ?assign ?body ?done ?stop
 case assign =>
  intro l x W K hK
  gi_wp2
  exact hK
 case body =>
  rintro l pre x W ⟨⟨v, hv, hrow, -⟩, hB⟩ hlt
  have hc := hv.cell
  have hml : zs.length ≤ maxLen := by unfold maxLen; omega
  have hbytes : zs.length * 8 ≤ 140737488355328 := by omega
  gi_wp2_with (gi_at_builtin; refine wpListIn_append_own _ rfl _ _ 24 rfl w.heap.size 3 i0 (.int .i64 0) 1 8 Tryz.underlying24 hi hz0 hz1 hz2 rfl (by decide) _ _ _ rfl (hrow.alloc _) ⟨W.heap.size, 0, none⟩ 1 1 [.int .i64 x] rfl rfl (cell_one_new _ _ _) (by simp [Value.oneCell']) (by omega) (by omega) (by have := hB.size; simp; omega) ?_; intro v' w1 hown' hgrow _; obtain ⟨g', cap', rfl⟩ := ownsRow_succ hown'; obtain ⟨hv1, hv2, hr2, hk2, hb2⟩ := hv.appended (by decide) hrow hB.size (Nat.le_refl _) hown' hgrow; have hc1 := hv1.cell; have hf1 := hv1.frozen)
  exact ⟨hk2.from _, hb2, ⟨_, hv2, by simpa using hr2, trivial⟩, hB.trans hb2⟩
 case done =>
  rintro D ys W hD rfl ⟨⟨v, hv, hrow, -⟩, hB⟩ hK
  have hc := hv.cell
  gi_wp2
  refine ⟨by simp, .inl ⟨_, _, rfl, run_takeDeferred hK, ?_⟩⟩
  exact ⟨_, results_tmp rfl _ _ _, v, rfl, ownsRow_putObj hrow _ hK rfl, hB.trans (belowK_b (w := w) (Nat.le_refl _) W D _ _ (by simp at hD; omega) hK rfl rfl)⟩
 case stop =>
  rintro D c pre W _ _ h _
  exact h.elim
theorem slices_Collect.values_in (n : Nat) (hn : 3 ≤ n) (Bs : Nat) (sv : Value) (zs : List Int) (hlen : zs.length ≤ 1000000) (w : World) (hBs : Bs < w.heap.size) (hcB : w.cell? ⟨Bs, 0, none⟩ = some sv) (hI : IntsAt w.heap.size w sv zs) :
 CallsIn Fence.wide n Tryz.prog 85 #[.func (.func 87) #[] #[.pointer (some ⟨Bs, 0, none⟩)]] w fun e W' => ∃ v, e = .returned v ∧ W'.ownsRow w.heap.size 3 1 v zs.length (zs.map (Value.int .i64)) ∧ Below w.heap.size w W' := by
 have hfC : Fence.wide.fn 90 := trivial
 have h1 : 1 ≤ n := by omega
 refine callsIn_of_wp Tryz.func85 rfl trivial ?_ rfl
 simp only [Tryz.ntmps85, List.size_toArray, List.length_cons, List.length_nil, Nat.reduceAdd, Nat.reduceSub, Array.replicate_succ, Array.replicate_zero, List.push_toArray, List.append_toArray, List.nil_append, List.cons_append]
 gi_wp2_with (gi_at_call 90; refine (slices_AppendSeq.values_in (n - 1) (by omega) Bs sv zs hlen _ hBs hcB hI).mono ?_; rintro e W' ⟨v, rfl, hown, hb⟩)
 go_ret
 exact ⟨v, rfl, hown, hb⟩
theorem intsAt_of_C {w : World} {A : Option Addr} {c : Nat} {l : List Int} (h : Kd.C (Kd.int .i64) w A l.length l) (hne : 0 < l.length) : IntsAt w.heap.size w (.slice A l.length c) l := by
 obtain ⟨ad, e, h0⟩ := Kd.at_int h 0 (by omega) (by omega)
 obtain ⟨b, off, spot⟩ := ad
 have hs : spot = none := by
  simp only [Int.toNat_zero, Addr.add, if_true, World.cell?] at h0
  split at h0
  · split at h0
    · cases h0
    · rename_i hh
      cases spot with
      | none => rfl
      | some x => exact absurd rfl hh
  · cases h0
 subst hs e
 refine .inr ⟨b, off, c, rfl, World.block_lt_of_cell? w _ h0, fun j hj => ?_⟩
 obtain ⟨ad', e', h1⟩ := Kd.at_int h (j : Int) (by omega) (by omega)
 injection e' with e'
 subst e'
 rw [Int.toNat_natCast] at h1
 have ha : (⟨b, off, none⟩ : Addr).add j = ⟨b, off + j, none⟩ := by
  unfold Addr.add
  split
  · rename_i hz; subst hz; rfl
  · rfl
 rw [ha] at h1
 rw [h1]
 simp [rd]
set_option maxRecDepth 100000 in
theorem slices_Sorted.values_in (n : Nat) (hn : 4 ≤ n) (k Bs : Nat) (sv : Value) (zs rs : List Int) (h : slices_Sort_int_int.f k zs = some rs) (hlen : zs.length ≤ 1000000) (w : World) (hBs : Bs < w.heap.size) (hcB : w.cell? ⟨Bs, 0, none⟩ = some sv) (hI : IntsAt w.heap.size w sv zs) :
 CallsIn Fence.wide n Tryz.prog 74 #[.func (.func 87) #[] #[.pointer (some ⟨Bs, 0, none⟩)]] w fun e W' => ∃ v, e = .returned v ∧ Kd.R (Kd.int .i64) 3 W' w.heap.size (fun _ => True) v rs ∧ Below w.heap.size w W' := by
 have hf85 : Fence.wide.fn 85 := trivial
 have h1 : 1 ≤ n := by omega
 have hf86 : Fence.wide.fn 86 := trivial
 refine callsIn_of_wp Tryz.func74 rfl trivial ?_ rfl
 simp only [Tryz.ntmps74, List.size_toArray, List.length_cons, List.length_nil, Nat.reduceAdd, Nat.reduceSub, Array.replicate_succ, Array.replicate_zero, List.push_toArray, List.append_toArray, List.nil_append, List.cons_append]
 gi_wp2_with (first
  | (gi_at_call 85; refine (slices_Collect.values_in (n - 1) (by omega) Bs sv zs hlen _ hBs hcB hI).mono ?_; rintro e W' ⟨v, rfl, hown, hb⟩)
  | (gi_at_call 86; refine (callsIn_wide.2 (slices_Sort_int_int.calls k (fun _ => True) v zs rs w W' hb (Kd.R_of_own (by simpa [encs] using hown) (fun _ _ => trivial)) h)).mono ?_; rintro e W2 ⟨rfl, hR2, hb2, hk2⟩))
 go_ret
 exact ⟨v, rfl, Kd.zsd hR2 (fun _ _ => trivial), hb2⟩
def print_isTwice.f (k : Nat) (l0 : List Int) : Option Bool := if 0 < l0.length ∧ l0.length ≤ 1000000 then (slices_Sort_int_int.f k l0).bind fun s => (zwb.f k s).bind fun c => some (decide ((c.length : Int) < (l0.length : Int))) else none
set_option maxRecDepth 100000 in
theorem print_isTwice.calls (k : Nat) (A0 : Option Addr) (c0 : Nat) (l0 : List Int) (r : Bool) (w : World) (hr0 : Kd.C (Kd.int .i64) w A0 l0.length l0) (hc0 : l0.length ≤ c0) (h : print_isTwice.f k l0 = some r) :
 Calls Tryz.prog 57 #[.slice A0 l0.length c0] w fun e w' => e = .returned (.bool r) ∧ Below w.heap.size w w' := by
 unfold print_isTwice.f at h
 split at h
 case isFalse => cases h
 case isTrue hl =>
  obtain ⟨rs, hs, h⟩ := Option.bind_eq_some_iff.mp h
  obtain ⟨cs, hc, h⟩ := Option.bind_eq_some_iff.mp h
  injection h with h
  subst h
  have hI := intsAt_of_C (c := c0) hr0 hl.1
  refine (callsIn_wide (n := 9)).1 ?_
  have hf75 : Fence.wide.fn 75 := trivial
  have hf74 : Fence.wide.fn 74 := trivial
  have hf70 : Fence.wide.fn 70 := trivial
  have hB0 : Below w.heap.size w (w.alloc (.cells #[.slice A0 l0.length c0] 24)) := (Below.refl _ w).alloc (Nat.le_refl _) _
  have hI0 : IntsAt (w.alloc (.cells #[.slice A0 l0.length c0] 24)).heap.size (w.alloc (.cells #[.slice A0 l0.length c0] 24)) (.slice A0 l0.length c0) l0 := by
   rcases hI.below hB0 with ⟨e1, e2⟩ | ⟨b, off, cap, e1, e2, e3⟩
   · exact .inl ⟨e1, e2⟩
   · exact .inr ⟨b, off, cap, e1, by simp; omega, e3⟩
  refine callsIn_of_wp Tryz.func57 rfl trivial ?_ rfl
  simp only [Tryz.ntmps57, List.size_toArray, List.length_cons, List.length_nil, Nat.reduceAdd, Nat.reduceSub, Array.replicate_succ, Array.replicate_zero, List.push_toArray, List.append_toArray, List.nil_append, List.cons_append]
  gi_wp2_with (first
   | (gi_at_call 75; refine (slices_Values.calls_in Fence.wide 8 trivial rfl A0 l0.length c0 w).mono ?_; rintro e W' ⟨rfl, rfl⟩)
   | (gi_at_call 74; refine (slices_Sorted.values_in 8 (by omega) k w.heap.size (.slice A0 l0.length c0) l0 rs hs hl.2 _ (by simp) (by simp) hI0).mono ?_; rintro e W1 ⟨v, rfl, hR, hb⟩; obtain ⟨A1, c1, rfl⟩ := Kd.zfd hR)
   | (gi_at_call 70; refine (callsIn_wide.2 (zwb.calls k (fun _ => True) A1 c1 rs cs W1 (Kd.zcc (Kd.R_V hR) (fun _ _ => trivial)) hc)).mono ?_; rintro e W2 ⟨v2, rfl, hV, hb2⟩; obtain ⟨A2, c2, rfl⟩ := Kd.V_slice hV))
  go_ret
  exact ⟨by simp, zma (zma hB0 hb) hb2⟩
end Go.Proofs.YtoacbkoenkiahaaGreat.PTopGluePlate
end
section
namespace Go.Proofs.YtoacbkoenkiahaaGreat.PTopGluePlate
open Go.RowKit Go.Proofs.YtoacbkoenkiahaaGreatW.PrintWords Go.Proofs.YtoacbkoenkiahaaGreatW.PrintLast Go.Proofs.YtoacbkoenkiahaaGreatW.PrintMore
attribute [local go_sem] znb zlb zhc zgc zeb zdb zmb zkb
set_option linter.unusedVariables false
set_option linter.unusedSimpArgs false
def zod.l0 : Nat → List Int → Int → Int → Int → Option (Int)
 | 0, _, _, _, _ => none
 | k + 1, x0, x1, x7, x8 => if x8 < x7 then (if 0 ≤ x8 then (if x8 < (x0.length : Int) then (if x1 = (rd x0 x8) then (some x8) else (zod.l0 k x0 x1 x7 (wrap64 (x8 + 1)))) else (none)) else (none)) else (some (-1))
def zod.f (k : Nat) (l0 : List Int) (a1 : Int) : Option (Int) := zod.l0 k l0 a1 (l0.length : Int) 0
set_option maxHeartbeats 8000000 in
set_option maxRecDepth 100000 in
theorem zod.calls (k : Nat) (A0 : Option Addr) (c0 : Nat) (l0 : List Int) (a1 : Int) (r : Int) (w : World) (hr0 : Kd.C (Kd.int .i64) w A0 l0.length l0) (hc0 : l0.length ≤ c0) (h : zod.f k l0 a1 = some r) :
 Calls Tryz.prog 76 #[.slice A0 l0.length c0, .int .i64 a1] w fun e w' => e = .returned (.int .i64 r) ∧ zjc w w' := by
 have HR0 := zaa.mk hr0
 have HC0 := zaa.mk hc0
 clear hr0 hc0
 have H : (zod.l0 k l0 a1 (l0.length : Int) 0) = some r := h
 clear h
 have H' := zaa.mk H
 clear H
 go_enter Tryz.func76, Tryz.ntmps76
 go_wp2
 go_loopg [8] k (fun kq v8 w' => ∃ (x8_1 : Int), v8 = .int .i64 x8_1 ∧ zaa (zod.l0 kq l0 a1 (l0.length : Int) x8_1 = some r) ∧ zaa (kq ≤ k) ∧ zjc w w')
 case atStart => exact ⟨(0), (by first | rfl | (simp; done) | (simp [*]; done)), H', ⟨Nat.le_refl _⟩, by repeat (first | exact zjc.refl _ | apply zjc.step)⟩
 case round =>
  clear H'
  try clear p2
  obtain ⟨x8_1, rfl, HA, HK1, ⟨m1, rfl⟩⟩ := hrel
  cases gk with
  | zero => exact absurd HA.out (by simp [zod.l0])
  | succ k1 =>
   have H := HA.out
   clear HA
   simp only [zod.l0] at H
   by_cases c3 : x8_1 < (l0.length : Int)
   · rw [if_pos c3] at H
     have c3b0 : decide (x8_1 < (l0.length : Int)) = true := decide_eq_true c3
     clear c3
     by_cases c4 : 0 ≤ x8_1
     · rw [if_pos c4] at H
       have c4b0 : decide (0 ≤ x8_1) = true := decide_eq_true c4
       clear c4
       by_cases c5 : x8_1 < (l0.length : Int)
       · rw [if_pos c5] at H
         have c5b0 : decide (x8_1 < (l0.length : Int)) = true := decide_eq_true c5
         clear c5
         by_cases c6 : a1 = (rd l0 x8_1)
         · rw [if_pos c6] at H
           have c6b0 : (a1 == (rd l0 x8_1)) = true := beq_iff_eq.mpr c6
           have c6b1 : (a1 != (rd l0 x8_1)) = false := bne_eq_false_iff_eq.mpr c6
           clear c6
           obtain rfl := Option.some.inj H
           have p356 : 0 ≤ (x8_1 : Int) := of_decide_eq_true (by first | (with_reducible assumption) | assumption)
           have q356 : x8_1 < (l0.length : Int) := of_decide_eq_true (by first | (with_reducible assumption) | assumption)
           obtain ⟨ad356, e356, hx356_0⟩ := Kd.at_int HR0.out x8_1 p356 q356
           cases e356
           replace p356 := eq_true p356
           replace q356 := eq_true q356
           go_wp2
           go_ret
           exact ⟨by first | rfl | (simp; done) | (simp [*]; done), by repeat (first | exact zjc.refl _ | apply zjc.step)⟩
         · rw [if_neg c6] at H
           have c6b0 : (a1 == (rd l0 x8_1)) = false := beq_eq_false_iff_ne.mpr c6
           have c6b1 : (a1 != (rd l0 x8_1)) = true := bne_iff_ne.mpr c6
           have H' := zaa.mk H
           clear H
           have p356 : 0 ≤ (x8_1 : Int) := of_decide_eq_true (by first | (with_reducible assumption) | assumption)
           have q356 : x8_1 < (l0.length : Int) := of_decide_eq_true (by first | (with_reducible assumption) | assumption)
           obtain ⟨ad356, e356, hx356_0⟩ := Kd.at_int HR0.out x8_1 p356 q356
           cases e356
           replace p356 := eq_true p356
           replace q356 := eq_true q356
           go_wp2
           go_roundg k1
           case measure => have := HK1.out; omega
           case rel => exact ⟨(wrap64 (x8_1 + 1)), (by first | rfl | (simp; done) | (simp [*]; done)), H', ⟨by have := HK1.out; omega⟩, by repeat (first | exact zjc.refl _ | apply zjc.step)⟩
       · rw [if_neg c5] at H
         exact absurd H (by simp)
     · rw [if_neg c4] at H
       exact absurd H (by simp)
   · rw [if_neg c3] at H
     have c3b0 : decide (x8_1 < (l0.length : Int)) = false := decide_eq_false c3
     clear c3
     obtain rfl := Option.some.inj H
     go_wp2
     go_ret
     exact ⟨by first | rfl | (simp; done) | (simp [*]; done), by repeat (first | exact zjc.refl _ | apply zjc.step)⟩
end Go.Proofs.YtoacbkoenkiahaaGreat.PTopGluePlate
end
section
namespace Go.Proofs.YtoacbkoenkiahaaGreat.PTopGluePlate
open Go.RowKit Go.Proofs.YtoacbkoenkiahaaGreatW.PrintWords Go.Proofs.YtoacbkoenkiahaaGreatW.PrintLast Go.Proofs.YtoacbkoenkiahaaGreatW.PrintMore
attribute [local go_sem] znb zlb zhc zgc zeb zdb zmb zkb
set_option linter.unusedVariables false
set_option linter.unusedSimpArgs false
def ztd.f (k : Nat) (l0 : List Int) (a1 : Int) : Option (Bool) := (zod.f k l0 a1).bind fun t357 => (some (decide (t357 ≥ 0)))
set_option maxHeartbeats 8000000 in
set_option maxRecDepth 100000 in
theorem ztd.calls (k : Nat) (A0 : Option Addr) (c0 : Nat) (l0 : List Int) (a1 : Int) (r : Bool) (w : World) (hr0 : Kd.C (Kd.int .i64) w A0 l0.length l0) (hc0 : l0.length ≤ c0) (h : ztd.f k l0 a1 = some r) :
 Calls Tryz.prog 58 #[.slice A0 l0.length c0, .int .i64 a1] w fun e w' => e = .returned (.bool r) ∧ zjc w w' := by
 have HR0 := zaa.mk hr0
 have HC0 := zaa.mk hc0
 clear hr0 hc0
 have H : ((zod.f k l0 a1).bind fun t357 => (some (decide (t357 ≥ 0)))) = some r := h
 clear h
 replace H := Option.bind_eq_some_iff.mp H
 obtain ⟨t357, A30, H⟩ := H
 replace H : (some (decide (t357 ≥ 0))) = some r := H
 have A3 := zaa.mk A30
 clear A30
 obtain rfl := Option.some.inj H
 go_enter Tryz.func58, Tryz.ntmps58
 go_wp2_with (first | ((with_reducible refine zxa (f := 76) rfl ?_); refine zhd (some 7) rfl rfl Tryz.func76 (by kernel_rfl) rfl #[.slice A0 l0.length c0, .int .i64 a1] rfl (by (try simp only [List.map_toArray, List.map_cons, List.map_nil]); first | done | rfl | (simp only [List.length_drop, List.length_take]; rfl)) ?_; (with_reducible refine (zod.calls k _ _ l0 a1 t357 _ ?side1 ?side2 A3.out).mono ?_); (case side1 => repeat (first | exact HR0.out | (with_reducible refine Kd.zrb ?_ _) | (with_reducible refine Kd.zqb ?_ _) | (with_reducible refine Kd.zmc ?_))); (case side2 => exact HC0.out); rintro e w' ⟨rfl, ⟨nd, rfl⟩⟩; refine ⟨_, rfl, ?_⟩))
 go_ret
 exact ⟨by first | rfl | (simp; done) | (simp [*]; done), by repeat (first | exact zjc.refl _ | apply zjc.step)⟩
end Go.Proofs.YtoacbkoenkiahaaGreat.PTopGluePlate
end
section
namespace Go.Proofs.YtoacbkoenkiahaaGreat.PTopGluePlate
open Go.RowKit Go.Proofs.YtoacbkoenkiahaaGreatW.PrintWords Go.Proofs.YtoacbkoenkiahaaGreatW.PrintLast Go.Proofs.YtoacbkoenkiahaaGreatW.PrintMore
attribute [local go_sem] znb zlb zhc zgc zeb zdb zmb zkb
set_option linter.unusedVariables false
set_option linter.unusedSimpArgs false
def cmp_Compare_int.f (a0 : Int) (a1 : Int) : Option (Int) := (cmp_isNaN_int.f a0).bind fun t358 => ((cmp_isNaN_int.f a1).bind fun t359 => (if t358 = true then (if t359 = true then (some 0) else (some (-1))) else (if t359 = true then (some 1) else (if a0 < a1 then (some (-1)) else (if a0 > a1 then (some 1) else (some 0))))))
set_option maxHeartbeats 8000000 in
set_option maxRecDepth 100000 in
theorem cmp_Compare_int.calls (a0 : Int) (a1 : Int) (r : Int) (w : World) (h : cmp_Compare_int.f a0 a1 = some r) :
 Calls Tryz.prog 79 #[.int .i64 a0, .int .i64 a1] w fun e w' => e = .returned (.int .i64 r) ∧ zjc w w' := by
 have H : ((cmp_isNaN_int.f a0).bind fun t358 => ((cmp_isNaN_int.f a1).bind fun t359 => (if t358 = true then (if t359 = true then (some 0) else (some (-1))) else (if t359 = true then (some 1) else (if a0 < a1 then (some (-1)) else (if a0 > a1 then (some 1) else (some 0))))))) = some r := h
 clear h
 replace H := Option.bind_eq_some_iff.mp H
 obtain ⟨t358, A30, H⟩ := H
 replace H : ((cmp_isNaN_int.f a1).bind fun t359 => (if t358 = true then (if t359 = true then (some 0) else (some (-1))) else (if t359 = true then (some 1) else (if a0 < a1 then (some (-1)) else (if a0 > a1 then (some 1) else (some 0)))))) = some r := H
 have A3 := zaa.mk A30
 clear A30
 replace H := Option.bind_eq_some_iff.mp H
 obtain ⟨t359, A40, H⟩ := H
 replace H : (if t358 = true then (if t359 = true then (some 0) else (some (-1))) else (if t359 = true then (some 1) else (if a0 < a1 then (some (-1)) else (if a0 > a1 then (some 1) else (some 0))))) = some r := H
 have A4 := zaa.mk A40
 clear A40
 by_cases c5 : t358 = true
 · subst c5
   have H1 : (if t359 = true then (some 0) else (some (-1))) = some r := by rw [if_pos rfl] at H; exact H
   clear H
   have H := H1
   clear H1
   by_cases c6 : t359 = true
   · subst c6
     have H1 : (some 0) = some r := by rw [if_pos rfl] at H; exact H
     clear H
     have H := H1
     clear H1
     obtain rfl := Option.some.inj H
     go_enter Tryz.func79, Tryz.ntmps79
     go_wp2_with (first | ((with_reducible refine zxa (f := 88) rfl ?_); refine zhd (some 8) rfl rfl Tryz.func88 (by kernel_rfl) rfl #[.int .i64 a0] rfl (by (try simp only [List.map_toArray, List.map_cons, List.map_nil]); first | done | rfl | (simp only [List.length_drop, List.length_take]; rfl)) ?_; (with_reducible refine (cmp_isNaN_int.calls a0 true _ A3.out).mono ?_); rintro e w' ⟨rfl, ⟨nd, rfl⟩⟩; refine ⟨_, rfl, ?_⟩) | ((with_reducible refine zxa (f := 88) rfl ?_); refine zhd (some 10) rfl rfl Tryz.func88 (by kernel_rfl) rfl #[.int .i64 a1] rfl (by (try simp only [List.map_toArray, List.map_cons, List.map_nil]); first | done | rfl | (simp only [List.length_drop, List.length_take]; rfl)) ?_; (with_reducible refine (cmp_isNaN_int.calls a1 true _ A4.out).mono ?_); rintro e w' ⟨rfl, ⟨nd, rfl⟩⟩; refine ⟨_, rfl, ?_⟩))
     go_ret
     exact ⟨by first | rfl | (simp; done) | (simp [*]; done), by repeat (first | exact zjc.refl _ | apply zjc.step)⟩
   · replace c6 := Bool.eq_false_iff.mpr c6
     subst c6
     have H1 : (some (-1)) = some r := by rw [if_neg (show ¬ (false = true) by decide)] at H; exact H
     clear H
     have H := H1
     clear H1
     obtain rfl := Option.some.inj H
     go_enter Tryz.func79, Tryz.ntmps79
     go_wp2_with (first | ((with_reducible refine zxa (f := 88) rfl ?_); refine zhd (some 8) rfl rfl Tryz.func88 (by kernel_rfl) rfl #[.int .i64 a0] rfl (by (try simp only [List.map_toArray, List.map_cons, List.map_nil]); first | done | rfl | (simp only [List.length_drop, List.length_take]; rfl)) ?_; (with_reducible refine (cmp_isNaN_int.calls a0 true _ A3.out).mono ?_); rintro e w' ⟨rfl, ⟨nd, rfl⟩⟩; refine ⟨_, rfl, ?_⟩) | ((with_reducible refine zxa (f := 88) rfl ?_); refine zhd (some 10) rfl rfl Tryz.func88 (by kernel_rfl) rfl #[.int .i64 a1] rfl (by (try simp only [List.map_toArray, List.map_cons, List.map_nil]); first | done | rfl | (simp only [List.length_drop, List.length_take]; rfl)) ?_; (with_reducible refine (cmp_isNaN_int.calls a1 false _ A4.out).mono ?_); rintro e w' ⟨rfl, ⟨nd, rfl⟩⟩; refine ⟨_, rfl, ?_⟩))
     go_ret
     exact ⟨by first | rfl | (simp; done) | (simp [*]; done), by repeat (first | exact zjc.refl _ | apply zjc.step)⟩
 · replace c5 := Bool.eq_false_iff.mpr c5
   subst c5
   have H1 : (if t359 = true then (some 1) else (if a0 < a1 then (some (-1)) else (if a0 > a1 then (some 1) else (some 0)))) = some r := by rw [if_neg (show ¬ (false = true) by decide)] at H; exact H
   clear H
   have H := H1
   clear H1
   by_cases c7 : t359 = true
   · subst c7
     have H1 : (some 1) = some r := by rw [if_pos rfl] at H; exact H
     clear H
     have H := H1
     clear H1
     obtain rfl := Option.some.inj H
     go_enter Tryz.func79, Tryz.ntmps79
     go_wp2_with (first | ((with_reducible refine zxa (f := 88) rfl ?_); refine zhd (some 8) rfl rfl Tryz.func88 (by kernel_rfl) rfl #[.int .i64 a0] rfl (by (try simp only [List.map_toArray, List.map_cons, List.map_nil]); first | done | rfl | (simp only [List.length_drop, List.length_take]; rfl)) ?_; (with_reducible refine (cmp_isNaN_int.calls a0 false _ A3.out).mono ?_); rintro e w' ⟨rfl, ⟨nd, rfl⟩⟩; refine ⟨_, rfl, ?_⟩) | ((with_reducible refine zxa (f := 88) rfl ?_); refine zhd (some 10) rfl rfl Tryz.func88 (by kernel_rfl) rfl #[.int .i64 a1] rfl (by (try simp only [List.map_toArray, List.map_cons, List.map_nil]); first | done | rfl | (simp only [List.length_drop, List.length_take]; rfl)) ?_; (with_reducible refine (cmp_isNaN_int.calls a1 true _ A4.out).mono ?_); rintro e w' ⟨rfl, ⟨nd, rfl⟩⟩; refine ⟨_, rfl, ?_⟩))
     go_ret
     exact ⟨by first | rfl | (simp; done) | (simp [*]; done), by repeat (first | exact zjc.refl _ | apply zjc.step)⟩
   · replace c7 := Bool.eq_false_iff.mpr c7
     subst c7
     have H1 : (if a0 < a1 then (some (-1)) else (if a0 > a1 then (some 1) else (some 0))) = some r := by rw [if_neg (show ¬ (false = true) by decide)] at H; exact H
     clear H
     have H := H1
     clear H1
     by_cases c8 : a0 < a1
     · rw [if_pos c8] at H
       have c8b0 : decide (a0 < a1) = true := decide_eq_true c8
       clear c8
       obtain rfl := Option.some.inj H
       go_enter Tryz.func79, Tryz.ntmps79
       go_wp2_with (first | ((with_reducible refine zxa (f := 88) rfl ?_); refine zhd (some 8) rfl rfl Tryz.func88 (by kernel_rfl) rfl #[.int .i64 a0] rfl (by (try simp only [List.map_toArray, List.map_cons, List.map_nil]); first | done | rfl | (simp only [List.length_drop, List.length_take]; rfl)) ?_; (with_reducible refine (cmp_isNaN_int.calls a0 false _ A3.out).mono ?_); rintro e w' ⟨rfl, ⟨nd, rfl⟩⟩; refine ⟨_, rfl, ?_⟩) | ((with_reducible refine zxa (f := 88) rfl ?_); refine zhd (some 10) rfl rfl Tryz.func88 (by kernel_rfl) rfl #[.int .i64 a1] rfl (by (try simp only [List.map_toArray, List.map_cons, List.map_nil]); first | done | rfl | (simp only [List.length_drop, List.length_take]; rfl)) ?_; (with_reducible refine (cmp_isNaN_int.calls a1 false _ A4.out).mono ?_); rintro e w' ⟨rfl, ⟨nd, rfl⟩⟩; refine ⟨_, rfl, ?_⟩))
       go_ret
       exact ⟨by first | rfl | (simp; done) | (simp [*]; done), by repeat (first | exact zjc.refl _ | apply zjc.step)⟩
     · rw [if_neg c8] at H
       have c8b0 : decide (a0 < a1) = false := decide_eq_false c8
       clear c8
       by_cases c9 : a0 > a1
       · rw [if_pos c9] at H
         have c9b0 : decide (a1 < a0) = true := decide_eq_true c9
         clear c9
         obtain rfl := Option.some.inj H
         go_enter Tryz.func79, Tryz.ntmps79
         go_wp2_with (first | ((with_reducible refine zxa (f := 88) rfl ?_); refine zhd (some 8) rfl rfl Tryz.func88 (by kernel_rfl) rfl #[.int .i64 a0] rfl (by (try simp only [List.map_toArray, List.map_cons, List.map_nil]); first | done | rfl | (simp only [List.length_drop, List.length_take]; rfl)) ?_; (with_reducible refine (cmp_isNaN_int.calls a0 false _ A3.out).mono ?_); rintro e w' ⟨rfl, ⟨nd, rfl⟩⟩; refine ⟨_, rfl, ?_⟩) | ((with_reducible refine zxa (f := 88) rfl ?_); refine zhd (some 10) rfl rfl Tryz.func88 (by kernel_rfl) rfl #[.int .i64 a1] rfl (by (try simp only [List.map_toArray, List.map_cons, List.map_nil]); first | done | rfl | (simp only [List.length_drop, List.length_take]; rfl)) ?_; (with_reducible refine (cmp_isNaN_int.calls a1 false _ A4.out).mono ?_); rintro e w' ⟨rfl, ⟨nd, rfl⟩⟩; refine ⟨_, rfl, ?_⟩))
         go_ret
         exact ⟨by first | rfl | (simp; done) | (simp [*]; done), by repeat (first | exact zjc.refl _ | apply zjc.step)⟩
       · rw [if_neg c9] at H
         have c9b0 : decide (a1 < a0) = false := decide_eq_false c9
         clear c9
         obtain rfl := Option.some.inj H
         go_enter Tryz.func79, Tryz.ntmps79
         go_wp2_with (first | ((with_reducible refine zxa (f := 88) rfl ?_); refine zhd (some 8) rfl rfl Tryz.func88 (by kernel_rfl) rfl #[.int .i64 a0] rfl (by (try simp only [List.map_toArray, List.map_cons, List.map_nil]); first | done | rfl | (simp only [List.length_drop, List.length_take]; rfl)) ?_; (with_reducible refine (cmp_isNaN_int.calls a0 false _ A3.out).mono ?_); rintro e w' ⟨rfl, ⟨nd, rfl⟩⟩; refine ⟨_, rfl, ?_⟩) | ((with_reducible refine zxa (f := 88) rfl ?_); refine zhd (some 10) rfl rfl Tryz.func88 (by kernel_rfl) rfl #[.int .i64 a1] rfl (by (try simp only [List.map_toArray, List.map_cons, List.map_nil]); first | done | rfl | (simp only [List.length_drop, List.length_take]; rfl)) ?_; (with_reducible refine (cmp_isNaN_int.calls a1 false _ A4.out).mono ?_); rintro e w' ⟨rfl, ⟨nd, rfl⟩⟩; refine ⟨_, rfl, ?_⟩))
         go_ret
         exact ⟨by first | rfl | (simp; done) | (simp [*]; done), by repeat (first | exact zjc.refl _ | apply zjc.step)⟩
end Go.Proofs.YtoacbkoenkiahaaGreat.PTopGluePlate
end
section
namespace Go.Proofs.YtoacbkoenkiahaaGreat.PTopGluePlate
open Go.RowKit Go.Proofs.YtoacbkoenkiahaaGreatW.PrintWords Go.Proofs.YtoacbkoenkiahaaGreatW.PrintLast Go.Proofs.YtoacbkoenkiahaaGreatW.PrintMore
attribute [local go_sem] znb zlb zhc zgc zeb zdb zmb zkb
set_option linter.unusedVariables false
set_option linter.unusedSimpArgs false
def print_use_1.f (k : Nat) (l0 : List Int) (a1_0 : Int) : Option (Bool) := (ztd.f k l0 a1_0).bind fun t360 => (some t360)
set_option maxHeartbeats 8000000 in
set_option maxRecDepth 100000 in
theorem print_use_1.calls (k : Nat) (A0 : Option Addr) (c0 : Nat) (l0 : List Int) (g1_ : Nat) (a1_0 : Int) (r : Bool) (w : World) (hr0 : Kd.C (Kd.int .i64) w A0 l0.length l0) (hc0 : l0.length ≤ c0) (hbx1 : w.heap[g1_]? = some (.cells #[.int .i64 a1_0] 3 (0, 0))) (h : print_use_1.f k l0 a1_0 = some r) :
 Calls Tryz.prog 89 #[.slice A0 l0.length c0, .pointer (some ⟨g1_, 0, none⟩)] w fun e w' => e = .returned (.bool r) ∧ zjc w w' := by
 have HR0 := zaa.mk hr0
 have HC0 := zaa.mk hc0
 clear hr0 hc0
 have BK1 := zaa.mk hbx1
 clear hbx1
 have H : ((ztd.f k l0 a1_0).bind fun t360 => (some t360)) = some r := h
 clear h
 replace H := Option.bind_eq_some_iff.mp H
 obtain ⟨t360, A30, H⟩ := H
 replace H : (some t360) = some r := H
 have A3 := zaa.mk A30
 clear A30
 obtain rfl := Option.some.inj H
 have hcz4_0 : w.cell? ⟨g1_, 0, none⟩ = some (.int .i64 a1_0) := (zla BK1.out 0).trans rfl
 have hfz4_0 := zka BK1.out 0
 go_enter Tryz.func89, Tryz.ntmps89
 go_wp2_with (first | ((with_reducible refine zxa (f := 58) rfl ?_); refine zhd (some 6) rfl rfl Tryz.func58 (by kernel_rfl) rfl #[.slice A0 l0.length c0, .int .i64 a1_0] rfl (by (try simp only [List.map_toArray, List.map_cons, List.map_nil]); first | done | rfl | (simp only [List.length_drop, List.length_take]; rfl)) ?_; (with_reducible refine (ztd.calls k _ _ l0 a1_0 t360 _ ?side1 ?side2 A3.out).mono ?_); (case side1 => repeat (first | exact HR0.out | (with_reducible refine Kd.zrb ?_ _) | (with_reducible refine Kd.zqb ?_ _) | (with_reducible refine Kd.zmc ?_))); (case side2 => exact HC0.out); rintro e w' ⟨rfl, ⟨nd, rfl⟩⟩; refine ⟨_, rfl, ?_⟩))
 go_ret
 exact ⟨by first | rfl | (simp; done) | (simp [*]; done), by repeat (first | exact zjc.refl _ | apply zjc.step)⟩
end Go.Proofs.YtoacbkoenkiahaaGreat.PTopGluePlate
end
section
namespace Go.Proofs.YtoacbkoenkiahaaGreat.PTopGluePlate
open Go.RowKit Go.Proofs.YtoacbkoenkiahaaGreatW.PrintWords Go.Proofs.YtoacbkoenkiahaaGreatW.PrintLast Go.Proofs.YtoacbkoenkiahaaGreatW.PrintMore
attribute [local go_sem] znb zlb zhc zgc zeb zdb zmb zkb
set_option linter.unusedVariables false
set_option linter.unusedSimpArgs false
def zce.f (k : Nat) (l0 : List (List Int)) (a1_0 : Int) : Option Int := idxO (fun (x : List Int) => print_use_1.f k x a1_0) l0 0
set_option maxHeartbeats 1000000 in
theorem zce.calls (k : Nat) (A0 : Option Addr) (c0 : Nat) (l0 : List (List Int)) (g1_ : Nat) (a1_0 : Int) (r : Int) (w : World) (hr0 : Kd.C (Kd.slice 3 (Kd.int .i64)) w A0 l0.length l0) (hc0 : l0.length ≤ c0) (hbx1 : w.heap[g1_]? = some (.cells #[.int .i64 a1_0] 3 (0, 0))) (h : zce.f k l0 a1_0 = some r) :
 Calls Tryz.prog 64 #[.slice A0 l0.length c0, .func (.func 89) #[] #[.pointer (some ⟨g1_, 0, none⟩)]] w fun e w' => e = .returned (.int .i64 r) ∧ Below w.heap.size w w' := by
 have eg : ∀ args w, (callFunc 89 args).run Tryz.prog w = .ok (.enter 89 args) w := enters_of Tryz.func89 (by kernel_rfl) rfl
 refine slices_IndexFunc_sl_int.calls 89 #[.pointer (some ⟨g1_, 0, none⟩)] (fun (x : List Int) => print_use_1.f k x a1_0) A0 c0 l0 r w hr0 hc0 eg ?_ h
 intro W x A_ c_ hx hA_ hc_ hW b hb
 refine (print_use_1.calls k A_ c_ x g1_ a1_0 b W hA_ hc_ ((hW.block _ (zbc hbx1)).trans hbx1) hb).mono ?_
 rintro e w' ⟨rfl, hd⟩; exact ⟨rfl, hd.below⟩
def print_use.f (k : Nat) (l0 : List (List Int)) (a1 : Int) : Option (Int) := (zce.f k l0 a1).bind fun t362 => (if t362 < 0 then (some (l0.length : Int)) else (some t362))
set_option maxHeartbeats 8000000 in
set_option maxRecDepth 100000 in
theorem print_use.calls (k : Nat) (A0 : Option Addr) (c0 : Nat) (l0 : List (List Int)) (a1 : Int) (r : Int) (w : World) (hr0 : Kd.C (Kd.slice 3 (Kd.int .i64)) w A0 l0.length l0) (hc0 : l0.length ≤ c0) (h : print_use.f k l0 a1 = some r) :
 Calls Tryz.prog 80 #[.slice A0 l0.length c0, .int .i64 a1] w fun e w' => e = .returned (.int .i64 r) ∧ Below w.heap.size w w' := by
 have HR0 := zaa.mk hr0
 have HC0 := zaa.mk hc0
 clear hr0 hc0
 have HB := zaa.mk (Below.refl w.heap.size w)
 have H : ((zce.f k l0 a1).bind fun t362 => (if t362 < 0 then (some (l0.length : Int)) else (some t362))) = some r := h
 clear h
 replace H := Option.bind_eq_some_iff.mp H
 obtain ⟨t362, A30, H⟩ := H
 replace H : (if t362 < 0 then (some (l0.length : Int)) else (some t362)) = some r := H
 have A3 := zaa.mk A30
 clear A30
 by_cases c4 : t362 < 0
 · rw [if_pos c4] at H
   have c4b0 : decide (t362 < 0) = true := decide_eq_true c4
   clear c4
   obtain rfl := Option.some.inj H
   go_enter Tryz.func80, Tryz.ntmps80
   go_wp2_with (first | ((with_reducible refine zbb (N := 3) rfl ?_); refine zob ?hg (N := 3) ?hd (cs := #[.int .i64 a1]) (t := 3) ?hr ?_; (case hd => rfl); (case hg => rfl); (case hr => first | (go_simp; done) | (go_simp; rfl)); intro gb361 hg w5 hbox hb; have BK361 := zaa.mk (hbox); have GW361 := zaa.mk ((by rw [hg]; exact (zja (by repeat (first | (with_reducible first | exact HB.out | apply zda | apply zba | apply zca) | exact HB.out))) : w.heap.size ≤ gb361)); have GE361 := zaa.mk ((by rw [hg]; exact (zja (by repeat (first | (with_reducible first | exact HB.out | apply zda | apply zba | apply zca) | exact HB.out))) : w.heap.size ≤ gb361)); replace HB := zaa.mk (zma (by repeat (first | (with_reducible first | exact HB.out | apply zda | apply zba | apply zca) | exact HB.out)) hb); clear hb hbox hg) | ((with_reducible refine zxa (f := 64) rfl ?_); refine zhd (some 8) rfl rfl Tryz.func64 (by kernel_rfl) rfl #[.slice A0 l0.length c0, .func (.func 89) #[] #[.pointer (some ⟨gb361, 0, none⟩)]] rfl (by (try simp only [List.map_toArray, List.map_cons, List.map_nil]); first | done | rfl | (simp only [List.length_drop, List.length_take]; rfl)) ?_; (with_reducible refine (zce.calls k _ _ l0 gb361 a1 t362 _ ?side1 ?side2 ?side3 A3.out).mono ?_); (case side1 => repeat (first | exact (Kd.zkc HR0.out HB.out) | (with_reducible refine Kd.zrb ?_ _) | (with_reducible refine Kd.zqb ?_ _) | (with_reducible refine Kd.zmc ?_))); (case side2 => exact HC0.out); (case side3 => (with_reducible repeat (first | refine zga ?_ _ | refine zha ?_ | refine zfa ?_ _)); exact BK361.out); rintro e w6 ⟨rfl, hb⟩; refine ⟨_, rfl, ?_⟩; replace BK361 := zaa.mk (zna (g := gb361) (o := .cells #[.int .i64 a1] 3 (0, 0)) (by (with_reducible repeat (first | refine zga ?_ _ | refine zha ?_ | refine zfa ?_ _)); exact BK361.out) hb); replace HB := zaa.mk (zma (by repeat (first | (with_reducible first | exact HB.out | apply zda | apply zba | apply zca | refine zea ?_ GE361.out) | exact HB.out)) hb); (try clear hb); (try clear hb2); (try clear hk); (try clear hi)))
   go_ret
   exact ⟨by first | rfl | (simp [zwa, zva] <;> rfl) | (simp [*, zwa, zva] <;> rfl), by repeat (first | (with_reducible first | exact HB.out | apply zda | apply zba | apply zca | refine zea ?_ GE361.out) | exact HB.out)⟩
 · rw [if_neg c4] at H
   have c4b0 : decide (t362 < 0) = false := decide_eq_false c4
   clear c4
   obtain rfl := Option.some.inj H
   go_enter Tryz.func80, Tryz.ntmps80
   go_wp2_with (first | ((with_reducible refine zbb (N := 3) rfl ?_); refine zob ?hg (N := 3) ?hd (cs := #[.int .i64 a1]) (t := 3) ?hr ?_; (case hd => rfl); (case hg => rfl); (case hr => first | (go_simp; done) | (go_simp; rfl)); intro gb361 hg w7 hbox hb; have BK361 := zaa.mk (hbox); have GW361 := zaa.mk ((by rw [hg]; exact (zja (by repeat (first | (with_reducible first | exact HB.out | apply zda | apply zba | apply zca) | exact HB.out))) : w.heap.size ≤ gb361)); have GE361 := zaa.mk ((by rw [hg]; exact (zja (by repeat (first | (with_reducible first | exact HB.out | apply zda | apply zba | apply zca) | exact HB.out))) : w.heap.size ≤ gb361)); replace HB := zaa.mk (zma (by repeat (first | (with_reducible first | exact HB.out | apply zda | apply zba | apply zca) | exact HB.out)) hb); clear hb hbox hg) | ((with_reducible refine zxa (f := 64) rfl ?_); refine zhd (some 8) rfl rfl Tryz.func64 (by kernel_rfl) rfl #[.slice A0 l0.length c0, .func (.func 89) #[] #[.pointer (some ⟨gb361, 0, none⟩)]] rfl (by (try simp only [List.map_toArray, List.map_cons, List.map_nil]); first | done | rfl | (simp only [List.length_drop, List.length_take]; rfl)) ?_; (with_reducible refine (zce.calls k _ _ l0 gb361 a1 t362 _ ?side1 ?side2 ?side3 A3.out).mono ?_); (case side1 => repeat (first | exact (Kd.zkc HR0.out HB.out) | (with_reducible refine Kd.zrb ?_ _) | (with_reducible refine Kd.zqb ?_ _) | (with_reducible refine Kd.zmc ?_))); (case side2 => exact HC0.out); (case side3 => (with_reducible repeat (first | refine zga ?_ _ | refine zha ?_ | refine zfa ?_ _)); exact BK361.out); rintro e w8 ⟨rfl, hb⟩; refine ⟨_, rfl, ?_⟩; replace BK361 := zaa.mk (zna (g := gb361) (o := .cells #[.int .i64 a1] 3 (0, 0)) (by (with_reducible repeat (first | refine zga ?_ _ | refine zha ?_ | refine zfa ?_ _)); exact BK361.out) hb); replace HB := zaa.mk (zma (by repeat (first | (with_reducible first | exact HB.out | apply zda | apply zba | apply zca | refine zea ?_ GE361.out) | exact HB.out)) hb); (try clear hb); (try clear hb2); (try clear hk); (try clear hi)))
   go_ret
   exact ⟨by first | rfl | (simp [zwa, zva] <;> rfl) | (simp [*, zwa, zva] <;> rfl), by repeat (first | (with_reducible first | exact HB.out | apply zda | apply zba | apply zca | refine zea ?_ GE361.out) | exact HB.out)⟩
end Go.Proofs.YtoacbkoenkiahaaGreat.PTopGluePlate
end
section
namespace Go.Proofs.YtoacbkoenkiahaaGreat.PTopGluePlate
open Go.RowKit Go.Proofs.YtoacbkoenkiahaaGreatW.PrintWords Go.Proofs.YtoacbkoenkiahaaGreatW.PrintLast Go.Proofs.YtoacbkoenkiahaaGreatW.PrintMore
attribute [local go_sem] znb zlb zhc zgc zeb zdb zmb zkb
set_option linter.unusedVariables false
set_option linter.unusedSimpArgs false
def print_drop_1.f (k : Nat) (a0 : Int) (a1 : Int) (l2_0 : List (List Int)) : Option (Int) := (print_use.f k l2_0 a0).bind fun t363 => ((print_use.f k l2_0 a1).bind fun t364 => ((cmp_Compare_int.f t363 t364).bind fun t365 => (some t365)))
def print_drop_1.T1 : Bool × List (List Nat × List Nat) := (true, [([], []), ([], []), ([0, 1], [0, 1]), ([], []), ([], []), ([3, 4, 2], [3, 4]), ([2, 5, 5], [2, 5]), ([6, 6, 0, 1, 2, 3, 4, 5, 6], [6])])
def print_drop_1.B1 : List Nat := [0, 0, 3, 0, 0, 31, 63, 127]
theorem print_drop_1.tab1 : rtab .any (opsOf Tryz.f78 1) = print_drop_1.T1 := by kernel_rfl
theorem print_drop_1.bits1 : waitsOk print_drop_1.T1.2 print_drop_1.B1 = true := by kernel_rfl
set_option maxHeartbeats 8000000 in
set_option maxRecDepth 100000 in
theorem print_drop_1.calls (k : Nat) (a0 : Int) (a1 : Int) (g2_ : Nat) (A2_0 : Option Addr) (c2_0 : Nat) (l2_0 : List (List Int)) (r : Int) (w : World) (hr2_0 : Kd.C (Kd.slice 3 (Kd.int .i64)) w A2_0 l2_0.length l2_0) (hc2_0 : l2_0.length ≤ c2_0) (hbx2 : w.heap[g2_]? = some (.cells #[.slice A2_0 l2_0.length c2_0] 38 (0, 0))) (h : print_drop_1.f k a0 a1 l2_0 = some r) :
 Calls Tryz.prog 78 #[.int .i64 a0, .int .i64 a1, .pointer (some ⟨g2_, 0, none⟩)] w fun e w' => e = .returned (.int .i64 r) ∧ Below w.heap.size w w' := by
 have HR2_0 := zaa.mk hr2_0
 have HC2_0 := zaa.mk hc2_0
 clear hr2_0 hc2_0
 have BK2 := zaa.mk hbx2
 clear hbx2
 have HB := zaa.mk (Below.refl w.heap.size w)
 have H : ((print_use.f k l2_0 a0).bind fun t363 => ((print_use.f k l2_0 a1).bind fun t364 => ((cmp_Compare_int.f t363 t364).bind fun t365 => (some t365)))) = some r := h
 clear h
 replace H := Option.bind_eq_some_iff.mp H
 obtain ⟨t363, A40, H⟩ := H
 replace H : ((print_use.f k l2_0 a1).bind fun t364 => ((cmp_Compare_int.f t363 t364).bind fun t365 => (some t365))) = some r := H
 have A4 := zaa.mk A40
 clear A40
 replace H := Option.bind_eq_some_iff.mp H
 obtain ⟨t364, A50, H⟩ := H
 replace H : ((cmp_Compare_int.f t363 t364).bind fun t365 => (some t365)) = some r := H
 have A5 := zaa.mk A50
 clear A50
 replace H := Option.bind_eq_some_iff.mp H
 obtain ⟨t365, A60, H⟩ := H
 replace H : (some t365) = some r := H
 have A6 := zaa.mk A60
 clear A60
 obtain rfl := Option.some.inj H
 go_enter Tryz.func78, Tryz.ntmps78
 try go_wp2
 replace BK2 := zaa.mk (zha BK2.out)
 replace HB := zaa.mk (zca HB.out)
 refine start_ (n := 8) (S := fun w' => w'.cell? ⟨g2_, 0, none⟩ = some (.slice A2_0 l2_0.length c2_0)) (ds := []) #[false, false, false, false, false, false, false, false] (by kernel_rfl) rfl rfl ((zla BK2.out 0).trans rfl) (fun hHeld => ?_); refine with_tabW print_drop_1.tab1 print_drop_1.bits1 (fun HT_ HW_ => ?_)
 generalize w.drew = w7 at BK2 HB hHeld ⊢
 refine zxc (i := 1) (N := some 7) (v := ?_) (a' := ?_) #[false, true, false, false, false, false, false, false] rfl rfl (zyb HT_.out (by kernel_rfl)) (fun _ _ _ h => h) (Or.inl ⟨by rfl, ?_⟩) ?_ ?_
 rotate_left
 · intro w'
   go_simp
   with_reducible rfl
 rotate_left
 · simp only [Act.put, List.setIfInBounds_toArray, List.set_cons_zero, List.set_cons_succ, zpb, zzb]
   rfl
 refine zxc (i := 4) (N := some 10) (v := ?_) (a' := ?_) #[false, true, false, false, true, false, false, false] rfl rfl (zyb HT_.out (by kernel_rfl)) (fun _ _ _ h => h) (Or.inl ⟨by rfl, ?_⟩) ?_ ?_
 rotate_left
 · intro w'
   go_simp
   with_reducible rfl
 rotate_left
 · simp only [Act.put, List.setIfInBounds_toArray, List.set_cons_zero, List.set_cons_succ, zpb, zzb]
   rfl
 refine take_ (i := 0) (N := some 6) (v := ?_) (a' := ?_) #[true, true, false, false, true, false, false, false] rfl rfl (zge HT_.out HW_.out (by kernel_rfl)) (fun _ _ _ h => h) (Or.inl ⟨by rfl, ?_⟩) hHeld ?_ ?_
 rotate_left
 · intro w' s0
   go_simp
   with_reducible rfl
 rotate_left
 · simp only [Act.put, List.setIfInBounds_toArray, List.set_cons_zero, List.set_cons_succ, zpb, zzb]
   rfl
 refine take_ (i := 3) (N := some 9) (v := ?_) (a' := ?_) #[true, true, false, true, true, false, false, false] rfl rfl (zge HT_.out HW_.out (by kernel_rfl)) (fun _ _ _ h => h) (Or.inl ⟨by rfl, ?_⟩) hHeld ?_ ?_
 rotate_left
 · intro w' s0
   go_simp
   with_reducible rfl
 rotate_left
 · simp only [Act.put, List.setIfInBounds_toArray, List.set_cons_zero, List.set_cons_succ, zpb, zzb]
   rfl
 refine one_ (i := 2) (N := some 8) #[true, true, true, true, true, false, false, false] rfl rfl (one_of HT_.out (by kernel_rfl)) (by decide) (fun K hK => ?_)
 refine goes_ Tryz.func80 (by kernel_rfl) rfl #[.slice A2_0 l2_0.length c2_0, .int .i64 a0] (by rfl) rfl rfl (by (try simp only [List.map_toArray, List.map_cons, List.map_nil]); first | done | rfl | (simp only [List.length_drop, List.length_take]; rfl)) ?_
 with_reducible refine (print_use.calls k _ _ l2_0 a0 t363 _ ?side1 ?side2 A4.out).mono ?_
 (case side1 => repeat (first | exact (Kd.zkc HR2_0.out HB.out) | (with_reducible refine Kd.zrb ?_ _) | (with_reducible refine Kd.zqb ?_ _) | (with_reducible refine Kd.zmc ?_)))
 (case side2 => exact HC2_0.out)
 rintro e w8 ⟨rfl, hb⟩
 refine ⟨_, rfl, ?_⟩
 replace BK2 := zaa.mk (zna (g := g2_) (o := .cells #[.slice A2_0 l2_0.length c2_0] 38 (0, 0)) (by (with_reducible repeat (first | refine zga ?_ _ | refine zha ?_ | refine zfa ?_ _)); exact BK2.out) hb)
 replace HB := zaa.mk (zma (by repeat (first | (with_reducible first | exact HB.out | apply zda | apply zba | apply zca | refine zea ?_ GE2.out) | exact HB.out)) hb)
 (try clear hb)
 (try clear hb2)
 (try clear hk)
 (try clear hi)
 refine hK.out _ _ ((zla BK2.out 0).trans rfl) (fun hHeld => ?_)
 clear hK K
 refine norm_ (a' := ?_) ?_ ?_
 rotate_left
 · show Act.put _ (some 8) _ = _
   simp only [Act.put, List.setIfInBounds_toArray, List.set_cons_zero, List.set_cons_succ, zpb, zzb]
   rfl
 refine one_ (i := 5) (N := some 11) #[true, true, true, true, true, true, false, false] rfl rfl (one_of HT_.out (by kernel_rfl)) (by decide) (fun K hK => ?_)
 refine goes_ Tryz.func80 (by kernel_rfl) rfl #[.slice A2_0 l2_0.length c2_0, .int .i64 a1] (by rfl) rfl rfl (by (try simp only [List.map_toArray, List.map_cons, List.map_nil]); first | done | rfl | (simp only [List.length_drop, List.length_take]; rfl)) ?_
 with_reducible refine (print_use.calls k _ _ l2_0 a1 t364 _ ?side1 ?side2 A5.out).mono ?_
 (case side1 => repeat (first | exact (Kd.zkc HR2_0.out HB.out) | (with_reducible refine Kd.zrb ?_ _) | (with_reducible refine Kd.zqb ?_ _) | (with_reducible refine Kd.zmc ?_)))
 (case side2 => exact HC2_0.out)
 rintro e w9 ⟨rfl, hb⟩
 refine ⟨_, rfl, ?_⟩
 replace BK2 := zaa.mk (zna (g := g2_) (o := .cells #[.slice A2_0 l2_0.length c2_0] 38 (0, 0)) (by (with_reducible repeat (first | refine zga ?_ _ | refine zha ?_ | refine zfa ?_ _)); exact BK2.out) hb)
 replace HB := zaa.mk (zma (by repeat (first | (with_reducible first | exact HB.out | apply zda | apply zba | apply zca | refine zea ?_ GE2.out) | exact HB.out)) hb)
 (try clear hb)
 (try clear hb2)
 (try clear hk)
 (try clear hi)
 refine hK.out _ _ ((zla BK2.out 0).trans rfl) (fun hHeld => ?_)
 clear hK K
 refine norm_ (a' := ?_) ?_ ?_
 rotate_left
 · show Act.put _ (some 11) _ = _
   simp only [Act.put, List.setIfInBounds_toArray, List.set_cons_zero, List.set_cons_succ, zpb, zzb]
   rfl
 refine one_ (i := 6) (N := some 12) #[true, true, true, true, true, true, true, false] rfl rfl (one_of HT_.out (by kernel_rfl)) (by decide) (fun K hK => ?_)
 refine goes_ Tryz.func79 (by kernel_rfl) rfl #[.int .i64 t363, .int .i64 t364] (by rfl) rfl rfl (by (try simp only [List.map_toArray, List.map_cons, List.map_nil]); first | done | rfl | (simp only [List.length_drop, List.length_take]; rfl)) ?_
 with_reducible refine (cmp_Compare_int.calls t363 t364 t365 _ A6.out).mono ?_
 rintro e w' ⟨rfl, ⟨nd, rfl⟩⟩
 refine ⟨_, rfl, ?_⟩
 refine hK.out _ _ ((zla BK2.out 0).trans rfl) (fun hHeld => ?_)
 clear hK K
 refine norm_ (a' := ?_) ?_ ?_
 rotate_left
 · show Act.put _ (some 12) _ = _
   simp only [Act.put, List.setIfInBounds_toArray, List.set_cons_zero, List.set_cons_succ, zpb, zzb]
   rfl
 refine zxc (i := 7) (N := some 5) (v := ?_) (a' := ?_) #[true, true, true, true, true, true, true, true] rfl rfl (zyb HT_.out (by kernel_rfl)) (fun _ _ _ h => h) (Or.inl ⟨by rfl, ?_⟩) ?_ ?_
 rotate_left
 · intro w'
   go_simp
   with_reducible rfl
 rotate_left
 · simp only [Act.put, List.setIfInBounds_toArray, List.set_cons_zero, List.set_cons_succ, zpb, zzb]
   rfl
 refine done_ (done_of HT_.out (by kernel_rfl)) ?_
 try go_wp2
 go_ret
 exact ⟨by first | rfl | (simp [zwa, zva] <;> rfl) | (simp [*, zwa, zva] <;> rfl), by repeat (first | (with_reducible first | exact HB.out | apply zda | apply zba | apply zca | refine zea ?_ GE2.out) | exact HB.out)⟩
end Go.Proofs.YtoacbkoenkiahaaGreat.PTopGluePlate
end
section
namespace Go.Proofs.YtoacbkoenkiahaaGreat.PTopGluePlate
open Go.RowKit Go.Proofs.YtoacbkoenkiahaaGreatW.PrintWords Go.Proofs.YtoacbkoenkiahaaGreatW.PrintLast Go.Proofs.YtoacbkoenkiahaaGreatW.PrintMore
attribute [local go_sem] znb zlb zhc zgc zeb zdb zmb zkb
set_option linter.unusedVariables false
set_option linter.unusedSimpArgs false
def print_drop_2.f (a0 : Int) (a1_0 : Int) : Option (Bool) := some (a0 == a1_0)
set_option maxHeartbeats 8000000 in
set_option maxRecDepth 100000 in
theorem print_drop_2.calls (a0 : Int) (g1_ : Nat) (a1_0 : Int) (r : Bool) (w : World) (hbx1 : w.heap[g1_]? = some (.cells #[.int .i64 a1_0] 3 (0, 0))) (h : print_drop_2.f a0 a1_0 = some r) :
 Calls Tryz.prog 82 #[.int .i64 a0, .pointer (some ⟨g1_, 0, none⟩)] w fun e w' => e = .returned (.bool r) ∧ zjc w w' := by
 have BK1 := zaa.mk hbx1
 clear hbx1
 have H : (some (a0 == a1_0)) = some r := h
 clear h
 obtain rfl := Option.some.inj H
 have hcz3_0 : w.cell? ⟨g1_, 0, none⟩ = some (.int .i64 a1_0) := (zla BK1.out 0).trans rfl
 have hfz3_0 := zka BK1.out 0
 go_enter Tryz.func82, Tryz.ntmps82
 go_wp2
 go_ret
 exact ⟨by first | rfl | (simp; done) | (simp [*]; done), by repeat (first | exact zjc.refl _ | apply zjc.step)⟩
end Go.Proofs.YtoacbkoenkiahaaGreat.PTopGluePlate
end
section
namespace Go.Proofs.YtoacbkoenkiahaaGreat.PTopGluePlate
open Go.RowKit Go.Proofs.YtoacbkoenkiahaaGreatW.PrintWords Go.Proofs.YtoacbkoenkiahaaGreatW.PrintLast Go.Proofs.YtoacbkoenkiahaaGreatW.PrintMore
attribute [local go_sem] znb zlb zhc zgc zeb zdb zmb zkb
set_option linter.unusedVariables false
set_option linter.unusedSimpArgs false
set_option maxRecDepth 100000 in
set_option maxHeartbeats 2000000 in
theorem print_drop.max2 (k : Nat) (a b t : Int) (ad : Addr) (cap : Nat) (hcap : 2 ≤ cap) (g2 : Nat) (A2 : Option Addr) (c2 : Nat) (l1 : List (List Int)) (w : World)
 (h0 : w.cell? ad = some (.int .i64 a)) (h1 : w.cell? ⟨ad.block, ad.off + 1, none⟩ = some (.int .i64 b)) (hb2 : w.heap[g2]? = some (.cells #[.slice A2 l1.length c2] 38 (0, 0)))
 (hr : Kd.C (Kd.slice 3 (Kd.int .i64)) w A2 l1.length l1) (hc : l1.length ≤ c2) (h : print_drop_1.f k b a l1 = some t) :
 Calls Tryz.prog 77 #[.slice (some ad) 2 cap, .func (.func 78) #[] #[.pointer (some ⟨g2, 0, none⟩)]] w fun e w' => e = .returned (.int .i64 (if 0 < t then b else a)) ∧ Below w.heap.size w w' := by
 have eg : ∀ args w, (callFunc 78 args).run Tryz.prog w = .ok (.enter 78 args) w := enters_of Tryz.func78 (by kernel_rfl) rfl
 have HC := zaa.mk (print_drop_1.calls k b a g2 A2 c2 l1 t w hr hc hb2 h)
 have HADD : ∀ a : Addr, a.add 0 = a := fun a => by simp [Addr.add]
 clear hb2 hr hc h
 go_enter Tryz.func77, Tryz.ntmps77
 go_wp2
 refine wp_loop_rounds 2 ?_
 rw [rounds_succ]
 by_cases ht : 0 < t
 · have ht1 : decide (t > 0) = true := decide_eq_true ht
   go_wp2_with (go_at_fn 78; refine HC.out.mono ?_; rintro e w1 ⟨rfl, hb'⟩; have HB' := zaa.mk hb'; have h0' := (hb'.cell (World.block_lt_of_cell? w _ h0)).trans h0; have h1' := (hb'.cell (World.block_lt_of_cell? w _ h1)).trans h1; clear hb')
   rw [rounds_succ]
   go_wp2
   go_ret
   exact ⟨by first | rfl | simp [ht], HB'.out⟩
 · have ht1 : decide (t > 0) = false := decide_eq_false ht
   go_wp2_with (go_at_fn 78; refine HC.out.mono ?_; rintro e w1 ⟨rfl, hb'⟩; have HB' := zaa.mk hb'; have h0' := (hb'.cell (World.block_lt_of_cell? w _ h0)).trans h0; have h1' := (hb'.cell (World.block_lt_of_cell? w _ h1)).trans h1; clear hb')
   rw [rounds_succ]
   go_wp2
   go_ret
   exact ⟨by first | rfl | simp [ht], HB'.out⟩
theorem print_drop.pred (G5 : Nat) (last : Int) (l : List Int) (W : World) (hb5 : W.heap[G5]? = some (.cells #[.int .i64 last] 3 (0, 0))) : Pred_int_66 Tryz.prog 82 #[.pointer (some ⟨G5, 0, none⟩)] l (fun x => print_drop_2.f x last) W := by
 intro W1 x _ hW b hb
 exact (print_drop_2.calls x G5 last b W1 ((hW.block _ (zbc hb5)).trans hb5) hb).mono fun e w' h => ⟨h.1, h.2.below⟩
set_option maxRecDepth 100000 in
set_option maxHeartbeats 4000000 in
theorem print_drop.del2a (a b : Int) (hab : b ≠ a) (G cap n0 : Nat) (hcap : 2 ≤ cap) (hm : cap ≤ 9223372036854775807) (hn0 : n0 ≤ G) (cur : Array Value) (W : World) (hW : W.heap[G]? = some (.cells cur 3 (0, 0))) (hsz : cur.size = cap) (h0 : cur[0]? = some (.int .i64 a)) (h1 : cur[1]? = some (.int .i64 b))
 (G5 : Nat) (hb5 : W.heap[G5]? = some (.cells #[.int .i64 a] 3 (0, 0))) (hC : Kd.C (Kd.int .i64) W (some ⟨G, 0, none⟩) 2 [a, b]) :
 Calls Tryz.prog 81 #[.slice (some ⟨G, 0, none⟩) 2 cap, .func (.func 82) #[] #[.pointer (some ⟨G5, 0, none⟩)]] W fun e w' => e = .returned (.slice (some ⟨G, 0, none⟩) 1 cap) ∧ (∃ cur', w'.heap[G]? = some (.cells cur' 3 (0, 0)) ∧ cur'.size = cap ∧ cur'[0]? = some (.int .i64 b)) ∧ Below n0 W w' := by
 have eg : ∀ args w, (callFunc 82 args).run Tryz.prog w = .ok (.enter 82 args) w := enters_of Tryz.func82 (by kernel_rfl) rfl
 have hz := fun w : World => (show (zeroValue 3).run Tryz.prog w = .ok (.int .i64 0) w by kernel_rfl)
 have HI := zaa.mk (slices_IndexFunc_int.calls 82 #[.pointer (some ⟨G5, 0, none⟩)] (fun x => print_drop_2.f x a) (some ⟨G, 0, none⟩) cap [a, b] 0 W hC hcap eg (print_drop.pred G5 a [a, b] W hb5) (by simp [idxO, print_drop_2.f]))
 have HP := zaa.mk (fun W1 (hb : W1.heap[G5]? = some (.cells #[.int .i64 a] 3 (0, 0))) => print_drop_2.calls b G5 a false W1 hb (by simp [print_drop_2.f, hab]))
 have HC := zaa.mk hC
 have HB5 := zaa.mk hb5
 clear hC hb5
 go_enter Tryz.func81, Tryz.ntmps81
 go_wp2_with (go_at_call 66; refine HI.out.mono ?_; rintro e w1 ⟨rfl, hb'⟩; have HB' := zaa.mk hb'; clear hb')
 refine wp_loop_rounds 2 ?_
 rw [rounds_succ]
 have hW1 : w1.heap[G]? = some (.cells cur 3 (0, 0)) := (HB'.out.block _ (zbc hW)).trans hW
 have HB51 := zaa.mk ((HB'.out.block _ (zbc HB5.out)).trans HB5.out)
 have c1 : w1.cell? ⟨G, 1, none⟩ = some (.int .i64 b) := (zla hW1 1).trans h1
 go_wp2_with (go_at_fn 82; refine (HP.out w1 HB51.out).mono ?_; rintro e w2 ⟨rfl, nd, rfl⟩; have hW2 : (w1.drewN nd).heap[G]? = some (.cells cur 3 (0, 0)) := hW1; have c20 : (w1.drewN nd).cell? ⟨G, 0, none⟩ = some (.int .i64 a) := (zla hW2 0).trans h0; have f20 := zka hW2 0)
 rw [rounds_succ]
 have hW3 := blk_set hW2 0 (.int .i64 b)
 have hclr : (Builtin.clear_ #[24] 0 #[.slice (some ⟨G, 1, none⟩) 1 (cap - 1)]).run Tryz.prog ((w1.drewN nd).setCell ⟨G, 0, none⟩ (.int .i64 b)) = .ok (.tuple #[]) (((w1.drewN nd).setCell ⟨G, 0, none⟩ (.int .i64 b)).setCells G 1 (List.replicate 1 (.int .i64 0))) :=
  Lib.run_clear_slice _ 24 3 0 (.int .i64 0) Tryz.underlying24 hz rfl rfl G 1 1 _ (by omega) (fun j hj => by
   rw [zla hW3, Array.getElem?_eq_getElem (by simp; omega)]
   rfl) (fun j _ => zka hW3 _)
 have HB2 : zaa (Below n0 W (((w1.drewN nd).setCell ⟨G, 0, none⟩ (.int .i64 b)).setCells G 1 (List.replicate 1 (.int .i64 0)))) := ⟨below_setCells hn0 _ _ _ ((Below.setCell (p := ⟨G, 0, none⟩) (zba (HB'.out.mono (by have := zbc hW; omega)) nd) hn0 _))⟩
 have HC2 : zaa (∃ cur', (((w1.drewN nd).setCell ⟨G, 0, none⟩ (.int .i64 b)).setCells G 1 (List.replicate 1 (.int .i64 0))).heap[G]? = some (.cells cur' 3 (0, 0)) ∧ cur'.size = cap ∧ cur'[0]? = some (.int .i64 b)) := by
  obtain ⟨cur', g1, g2, g3⟩ := blk_setCells (List.replicate 1 (.int .i64 0)) 1 _ _ hW3
  refine ⟨cur', g1, by rw [g2]; simp [hsz], ?_⟩
  rw [g3 0 (by omega), Array.getElem?_setIfInBounds, if_pos rfl, if_pos (by omega)]
 generalize ((w1.drewN nd).setCell ⟨G, 0, none⟩ (.int .i64 b)).setCells G 1 (List.replicate 1 (.int .i64 0)) = W4 at hclr HB2 HC2
 go_wp2
 go_ret
 exact ⟨rfl, HC2.out, HB2.out⟩
set_option maxRecDepth 100000 in
set_option maxHeartbeats 4000000 in
theorem print_drop.del2b (a b : Int) (hab : a ≠ b) (G cap n0 : Nat) (hcap : 2 ≤ cap) (hm : cap ≤ 9223372036854775807) (hn0 : n0 ≤ G) (cur : Array Value) (W : World) (hW : W.heap[G]? = some (.cells cur 3 (0, 0))) (hsz : cur.size = cap) (h0 : cur[0]? = some (.int .i64 a)) (h1 : cur[1]? = some (.int .i64 b))
 (G5 : Nat) (hb5 : W.heap[G5]? = some (.cells #[.int .i64 b] 3 (0, 0))) (hC : Kd.C (Kd.int .i64) W (some ⟨G, 0, none⟩) 2 [a, b]) :
 Calls Tryz.prog 81 #[.slice (some ⟨G, 0, none⟩) 2 cap, .func (.func 82) #[] #[.pointer (some ⟨G5, 0, none⟩)]] W fun e w' => e = .returned (.slice (some ⟨G, 0, none⟩) 1 cap) ∧ (∃ cur', w'.heap[G]? = some (.cells cur' 3 (0, 0)) ∧ cur'.size = cap ∧ cur'[0]? = some (.int .i64 a)) ∧ Below n0 W w' := by
 have eg : ∀ args w, (callFunc 82 args).run Tryz.prog w = .ok (.enter 82 args) w := enters_of Tryz.func82 (by kernel_rfl) rfl
 have hz := fun w : World => (show (zeroValue 3).run Tryz.prog w = .ok (.int .i64 0) w by kernel_rfl)
 have HI := zaa.mk (slices_IndexFunc_int.calls 82 #[.pointer (some ⟨G5, 0, none⟩)] (fun x => print_drop_2.f x b) (some ⟨G, 0, none⟩) cap [a, b] 1 W hC hcap eg (print_drop.pred G5 b [a, b] W hb5) (by simp [idxO, print_drop_2.f, hab]))
 clear hC hb5
 go_enter Tryz.func81, Tryz.ntmps81
 go_wp2_with (go_at_call 66; refine HI.out.mono ?_; rintro e w1 ⟨rfl, hb'⟩; have HB' := zaa.mk hb'; clear hb')
 refine wp_loop_rounds 1 ?_
 rw [rounds_succ]
 have hW1 : w1.heap[G]? = some (.cells cur 3 (0, 0)) := (HB'.out.block _ (zbc hW)).trans hW
 have hclr : (Builtin.clear_ #[24] 0 #[.slice (some ⟨G, 1, none⟩) 1 (cap - 1)]).run Tryz.prog w1 = .ok (.tuple #[]) (w1.setCells G 1 (List.replicate 1 (.int .i64 0))) :=
  Lib.run_clear_slice _ 24 3 0 (.int .i64 0) Tryz.underlying24 hz rfl rfl G 1 1 _ (by omega) (fun j hj => by
   rw [zla hW1, Array.getElem?_eq_getElem (by omega)]
   rfl) (fun j _ => zka hW1 _)
 have HB2 : zaa (Below n0 W (w1.setCells G 1 (List.replicate 1 (.int .i64 0)))) := ⟨below_setCells hn0 _ _ _ (HB'.out.mono (by have := zbc hW; omega))⟩
 have HC2 : zaa (∃ cur', (w1.setCells G 1 (List.replicate 1 (.int .i64 0))).heap[G]? = some (.cells cur' 3 (0, 0)) ∧ cur'.size = cap ∧ cur'[0]? = some (.int .i64 a)) := by
  obtain ⟨cur', g1, g2, g3⟩ := blk_setCells (List.replicate 1 (.int .i64 0)) 1 _ _ hW1
  exact ⟨cur', g1, by rw [g2]; exact hsz, by rw [g3 0 (by omega)]; exact h0⟩
 generalize w1.setCells G 1 (List.replicate 1 (.int .i64 0)) = W4 at hclr HB2 HC2
 go_wp2
 go_ret
 exact ⟨rfl, HC2.out, HB2.out⟩
theorem print_drop.del (a b m : Int) (r : List Int) (hab : a ≠ b) (hmr : (m = a ∧ r = [b]) ∨ (m = b ∧ r = [a])) (A3 : Option Addr) (c3 G5 n0 B : Nat) (hn : n0 ≤ B) (w3 : World) (hR : Kd.R (Kd.int .i64) 3 w3 B (fun _ => True) (.slice A3 ([a, b] : List Int).length c3) [a, b]) (hL : w3.heap[G5]? = some (.cells #[.int .i64 m] 3 (0, 0))) :
 Calls Tryz.prog 81 #[.slice A3 ([a, b] : List Int).length c3, .func (.func 82) #[] #[.pointer (some ⟨G5, 0, none⟩)]] w3 fun e w' => ∃ v : Value, e = .returned v ∧ Kd.R (Kd.int .i64) 3 w' n0 (fun _ => True) v r ∧ Below n0 w3 w' := by
 have hC := (Kd.zgb hR).2.2
 have hO := Kd.own_of_R hR
 obtain ⟨_, ⟨_, hz⟩ | ⟨G, cap, cur, hv, hB, hG, q1, q2, q3, q4⟩⟩ := hO
 · exact absurd hz (by simp)
 injection hv with hv1 _ hv3
 subst hv1 hv3
 simp only [List.length_cons, List.length_nil, Nat.zero_add, Nat.reduceAdd, Nat.mul_one] at q1 q3 q4 hC ⊢
 have hh : ∀ i : Nat, i < 2 → cur[i]? = ((encs (Value.int .i64) [a, b]) : List Value)[i]? := fun i hi => by
  have e : (cur.toList.take 2)[i]? = (encs (Value.int .i64) [a, b])[i]? := by
   first | exact congrArg (fun l => l[i]?) q4 | (rw [q4])
  rw [List.getElem?_take, if_pos hi] at e
  simpa using e
 have h0 : cur[0]? = some (.int .i64 a) := (hh 0 (by omega)).trans (by simp [encs])
 have h1 : cur[1]? = some (.int .i64 b) := (hh 1 (by omega)).trans (by simp [encs])
 have fin : ∀ (w' : World) (x : Int) (cur' : Array Value), w'.heap[G]? = some (.cells cur' 3 (0, 0)) → cur'.size = c3 → cur'[0]? = some (.int .i64 x) → Kd.R (Kd.int .i64) 3 w' n0 (fun _ => True) (.slice (some ⟨G, 0, none⟩) 1 c3) [x] := by
  intro w' x cur' g1 g2 g3
  refine Kd.R_of_own ⟨by simp [encs], .inr ⟨G, c3, cur', rfl, Nat.le_trans hn hB, g1, by simp; omega, q2, by rw [g2, Nat.mul_one], ?_⟩⟩ (fun _ _ => trivial)
  apply List.ext_getElem?
  intro i
  rw [List.getElem?_take]
  rcases i with _ | i
  · simpa [encs] using g3
  · simp [encs]
 have hm : c3 ≤ 9223372036854775807 := by unfold maxLen at q2; omega
 rcases hmr with ⟨rfl, rfl⟩ | ⟨rfl, rfl⟩
 · refine (print_drop.del2a m b (Ne.symm hab) G c3 n0 q1 hm (Nat.le_trans hn hB) cur w3 hG q3 h0 h1 G5 hL hC).mono ?_
   rintro e w' ⟨rfl, ⟨cur', g1, g2, g3⟩, hb⟩
   exact ⟨_, rfl, fin w' b cur' g1 g2 g3, hb⟩
 · refine (print_drop.del2b a m hab G c3 n0 q1 hm (Nat.le_trans hn hB) cur w3 hG q3 h0 h1 G5 hL hC).mono ?_
   rintro e w' ⟨rfl, ⟨cur', g1, g2, g3⟩, hb⟩
   exact ⟨_, rfl, fin w' a cur' g1 g2 g3, hb⟩
def print_drop.f (k : Nat) (l0 : List Int) (l1 : List (List Int)) : Option (List Int) :=
 match l0 with
 | [a, b] => (print_drop_1.f k b a l1).bind fun t => if a = b then none else if 0 < t then some [a] else some [b]
 | _ => none
set_option maxRecDepth 100000 in
set_option maxHeartbeats 4000000 in
theorem print_drop.calls (k : Nat) (A0 : Option Addr) (c0 : Nat) (l0 : List Int) (A1 : Option Addr) (c1 : Nat) (l1 : List (List Int)) (r : List Int) (w : World) (hr0 : Kd.C (Kd.int .i64) w A0 l0.length l0) (hc0 : l0.length ≤ c0) (hr1 : Kd.C (Kd.slice 3 (Kd.int .i64)) w A1 l1.length l1) (hc1 : l1.length ≤ c1) (h : print_drop.f k l0 l1 = some r) :
 Calls Tryz.prog 59 #[.slice A0 l0.length c0, .slice A1 l1.length c1] w fun e w' => ∃ v0_ : Value, e = .returned (v0_) ∧ Kd.R (Kd.int .i64) 3 w' w.heap.size (fun _ => True) v0_ r ∧ Below w.heap.size w w' := by
 unfold print_drop.f at h
 split at h
 case h_2 => cases h
 case h_1 a b =>
  obtain ⟨t, hd, h⟩ := Option.bind_eq_some_iff.mp h
  split at h
  case isTrue => cases h
  case isFalse hab =>
  obtain ⟨ad, e0, q0⟩ := Kd.at_int hr0 0 (by omega) (by simp)
  obtain ⟨ad', e1, q1⟩ := Kd.at_int hr0 1 (by omega) (by simp)
  subst e0
  injection e1 with e1
  subst e1
  have q0' : w.cell? ad = some (.int .i64 a) := by simpa [Addr.add, rd] using q0
  have q1' : w.cell? ⟨ad.block, ad.off + 1, none⟩ = some (.int .i64 b) := by simpa [Addr.add, rd] using q1
  have HR0 := zaa.mk hr0
  have HR1 := zaa.mk hr1
  have hB1 : Below w.heap.size w (w.alloc (.cells #[.slice A1 l1.length c1] 38 (0, 0))) := (Below.refl _ w).alloc (Nat.le_refl _) _
  have HB1 := zaa.mk hB1
  have HM := zaa.mk (print_drop.max2 k a b t ad c0 hc0 w.heap.size A1 c1 l1 (w.alloc (.cells #[.slice A1 l1.length c1] 38 (0, 0))) ((hB1.cell (World.block_lt_of_cell? w _ q0')).trans q0') ((hB1.cell (World.block_lt_of_cell? w _ q1')).trans q1') (World.alloc_heap_new _ _) (Kd.zkc hr1 hB1) hc1 hd)
  have HCl : zaa (∀ W : World, Kd.C (Kd.int .i64) W (some ad) 2 [a, b] → Calls Tryz.prog 35 #[.slice (some ad) 2 c0] W fun e w' => ∃ v0_ : Value, e = .returned (v0_) ∧ Kd.R (Kd.int .i64) 3 w' W.heap.size (fun _ => True) v0_ [a, b] ∧ Below W.heap.size W w') :=
   ⟨fun W hW => zlc.calls (some ad) c0 [a, b] [a, b] W hW hc0 (by simp [zlc.f])⟩
  obtain ⟨m, hm⟩ : ∃ m : Int, m = if 0 < t then b else a := ⟨_, rfl⟩
  rw [← hm] at HM
  have hmr : (m = a ∧ r = [b]) ∨ (m = b ∧ r = [a]) := by
   by_cases ht : 0 < t
   · rw [if_pos ht] at hm h
     exact .inr ⟨hm, (Option.some.inj h).symm⟩
   · rw [if_neg ht] at hm h
     exact .inl ⟨hm, (Option.some.inj h).symm⟩
  clear hr0 hr1 q0 q1 q0' q1' hd hB1 h hm hc0
  go_enter Tryz.func59, Tryz.ntmps59
  go_wp2_with (first
   | (go_at_call 77; refine HM.out.mono ?_; rintro e w1 ⟨rfl, hb'⟩; have HB2 := zaa.mk (zma HB1.out hb'); clear hb')
   | (go_at_call 35; refine (HCl.out _ (Kd.zkc HR0.out (HB2.out.alloc (zja HB2.out) _))).mono ?_; rintro e w3 ⟨v3, rfl, hR3, hb3⟩; have HR3 := zaa.mk hR3; have HB3 := zaa.mk (zma (HB2.out.alloc (zja HB2.out) _) hb3); have HL := zaa.mk ((hb3.block _ (zbc (World.alloc_heap_new w1 (.cells #[.int .i64 m] 3 (0, 0))))).trans (World.alloc_heap_new w1 (.cells #[.int .i64 m] 3 (0, 0)))); obtain ⟨A3, c3, rfl⟩ := Kd.zfd hR3; clear hR3 hb3)
   | (go_at_call 81; refine (print_drop.del a b m r hab hmr A3 c3 w1.heap.size w.heap.size _ (by have := HB2.out.size; simp; omega) w3 HR3.out HL.out).mono ?_; rintro e w4 ⟨v4, rfl, hR4, hb4⟩))
  go_ret
  exact ⟨_, rfl, hR4, HB3.out.trans hb4⟩
end Go.Proofs.YtoacbkoenkiahaaGreat.PTopGluePlate
end
section
namespace Go.Proofs.YtoacbkoenkiahaaGreat.PTopGluePlate
open Go.RowKit Go.Proofs.YtoacbkoenkiahaaGreatW.PrintWords Go.Proofs.YtoacbkoenkiahaaGreatW.PrintLast Go.Proofs.YtoacbkoenkiahaaGreatW.PrintMore
attribute [local go_sem] znb zlb zhc zgc zeb zdb zmb zkb
set_option linter.unusedVariables false
set_option linter.unusedSimpArgs false
def zwc.f (l0 : List (List Int)) (a1_0 : Int) : Option Bool := containsO (fun (x : List Int) => print_Load_1.f x a1_0) l0
set_option maxHeartbeats 1000000 in
theorem zwc.calls (A0 : Option Addr) (c0 : Nat) (l0 : List (List Int)) (g1_ : Nat) (a1_0 : Int) (r : Bool) (w : World) (hr0 : Kd.C (Kd.slice 3 (Kd.int .i64)) w A0 l0.length l0) (hc0 : l0.length ≤ c0) (hbx1 : w.heap[g1_]? = some (.cells #[.int .i64 a1_0] 3 (0, 0))) (h : zwc.f l0 a1_0 = some r) :
 Calls Tryz.prog 38 #[.slice A0 l0.length c0, .func (.func 54) #[] #[.pointer (some ⟨g1_, 0, none⟩)]] w fun e w' => e = .returned (.bool r) ∧ Below w.heap.size w w' := by
 have eg : ∀ args w, (callFunc 54 args).run Tryz.prog w = .ok (.enter 54 args) w := enters_of Tryz.func54 (by kernel_rfl) rfl
 refine slices_ContainsFunc_sl_int.calls 54 #[.pointer (some ⟨g1_, 0, none⟩)] (fun (x : List Int) => print_Load_1.f x a1_0) A0 c0 l0 r w hr0 hc0 eg ?_ h
 intro W x A_ c_ hx hA_ hc_ hW b hb
 refine (print_Load_1.calls A_ c_ x g1_ a1_0 b W hA_ hc_ ((hW.block _ (zbc hbx1)).trans hbx1) hb).mono ?_
 rintro e w' ⟨rfl, hd⟩; exact ⟨rfl, hd.below⟩
def zee.f (l0 : List (List Int))  : Option Bool := containsO (fun (x : List Int) => print_Load_2.f x ) l0
set_option maxHeartbeats 1000000 in
theorem zee.calls (A0 : Option Addr) (c0 : Nat) (l0 : List (List Int))  (r : Bool) (w : World) (hr0 : Kd.C (Kd.slice 3 (Kd.int .i64)) w A0 l0.length l0) (hc0 : l0.length ≤ c0) (h : zee.f l0  = some r) :
 Calls Tryz.prog 38 #[.slice A0 l0.length c0, .func (.func 55) #[] #[]] w fun e w' => e = .returned (.bool r) ∧ Below w.heap.size w w' := by
 have eg : ∀ args w, (callFunc 55 args).run Tryz.prog w = .ok (.enter 55 args) w := enters_of Tryz.func55 (by kernel_rfl) rfl
 refine slices_ContainsFunc_sl_int.calls 55 #[] (fun (x : List Int) => print_Load_2.f x ) A0 c0 l0 r w hr0 hc0 eg ?_ h
 intro W x A_ c_ hx hA_ hc_ hW b hb
 refine (print_Load_2.calls A_ c_ x b W hA_ hc_ hb).mono ?_
 rintro e w' ⟨rfl, hd⟩; exact ⟨rfl, hd⟩
def zed.f (k : Nat) (l0 : List (List Int))  : Option Bool := containsO (fun (x : List Int) => print_isTwice.f k x ) l0
set_option maxHeartbeats 1000000 in
theorem zed.calls (k : Nat) (A0 : Option Addr) (c0 : Nat) (l0 : List (List Int))  (r : Bool) (w : World) (hr0 : Kd.C (Kd.slice 3 (Kd.int .i64)) w A0 l0.length l0) (hc0 : l0.length ≤ c0) (h : zed.f k l0  = some r) :
 Calls Tryz.prog 38 #[.slice A0 l0.length c0, .func (.func 57) #[] #[]] w fun e w' => e = .returned (.bool r) ∧ Below w.heap.size w w' := by
 have eg : ∀ args w, (callFunc 57 args).run Tryz.prog w = .ok (.enter 57 args) w := enters_of Tryz.func57 (by kernel_rfl) rfl
 refine slices_ContainsFunc_sl_int.calls 57 #[] (fun (x : List Int) => print_isTwice.f k x ) A0 c0 l0 r w hr0 hc0 eg ?_ h
 intro W x A_ c_ hx hA_ hc_ hW b hb
 refine (print_isTwice.calls k A_ c_ x b W hA_ hc_ hb).mono ?_
 rintro e w' ⟨rfl, hd⟩; exact ⟨rfl, hd⟩
mutual
def zsb.j0 : Nat → List (List Int) → Int → Bool → Int → Option (Int × Int)
 | 0, _, _, _, _ => none
 | k + 1, x0, x4, x19, x367000 => if x19 = true then (none) else ((zee.f x0).bind fun t372 => (if t372 = true then (none) else ((zed.f k x0).bind fun t373 => (if t373 = true then (none) else (zsb.l0 k x0 x4 ([] : List Int) x0 (x0.length : Int) 0 x367000)))))
def zsb.l0 : Nat → List (List Int) → Int → List Int → List (List Int) → Int → Int → Int → Option (Int × Int)
 | 0, _, _, _, _, _, _, _ => none
 | k + 1, x0, x4, x8, x33, x34, x35, x367000 => if x35 < x34 then (if 0 ≤ x35 then (if x35 < (x33.length : Int) then (zsb.l1 k x0 x4 x8 x35 x33 x34 x35 (rd_L3 x33 x35) ((rd_L3 x33 x35).length : Int) 0 x367000) else (none)) else (none)) else (some (x4, 0))
def zsb.l1 : Nat → List (List Int) → Int → List Int → Int → List (List Int) → Int → Int → List Int → Int → Int → Int → Option (Int × Int)
 | 0, _, _, _, _, _, _, _, _, _, _, _ => none
 | k + 1, x0, x4, x8, x9, x33, x34, x35, x40, x41, x42, x367000 => if x42 < x41 then (if 0 ≤ x42 then (if x42 < (x40.length : Int) then ((ztd.f k x8 (rd x40 x42)).bind fun t376 => (if t376 = true then (zsb.l1 k x0 x4 x8 x9 x33 x34 x35 x40 x41 (wrap64 (x42 + 1)) x367000) else (if (x8.length : Int) = x367000 then (if 0 ≤ x9 then (if x9 ≤ (x0.length : Int) then ((print_drop.f k x8 (x0.drop (x9 : Int).toNat)).bind fun t381 => (if t381.length < 17592186044416 then (zsb.l1 k x0 (wrap64 (x4 + 1)) (t381 ++ [rd x40 x42]) x9 x33 x34 x35 x40 x41 (wrap64 (x42 + 1)) x367000) else (none))) else (none)) else (none)) else (if x8.length < 17592186044416 then (zsb.l1 k x0 x4 (x8 ++ [rd x40 x42]) x9 x33 x34 x35 x40 x41 (wrap64 (x42 + 1)) x367000) else (none))))) else (none)) else (none)) else (zsb.l0 k x0 x4 x8 x33 x34 (wrap64 (x35 + 1)) x367000)
end
def zsb.f (k : Nat) (l0 : List (List Int)) (a1 : Int) : Option (Int × Int) := (zxb.f 1 4 (([a1] : List Int))).bind fun t370 => (if t370 = true then (if (l0.length : Int) > 7 then (zsb.j0 k l0 0 (decide ((l0.length : Int) > 7)) a1) else ((zwc.f l0 a1).bind fun t371 => (zsb.j0 k l0 0 t371 a1))) else (none))
set_option maxHeartbeats 8000000 in
set_option maxRecDepth 100000 in
theorem zsb.calls (k : Nat) (A0 : Option Addr) (c0 : Nat) (l0 : List (List Int)) (a1 : Int) (r1 : Int) (r2 : Int) (w : World) (hr0 : Kd.C (Kd.slice 3 (Kd.int .i64)) w A0 l0.length l0) (hc0 : l0.length ≤ c0) (h : zsb.f k l0 a1 = some (r1, r2)) :
 Calls Tryz.prog 31 #[.slice A0 l0.length c0, .int .i64 a1] w fun e w' => e = .returned (.tuple #[.int .i64 r1, .int .i64 r2]) ∧ Below w.heap.size w w' := by
 have HR0 := zaa.mk hr0
 have HC0 := zaa.mk hc0
 clear hr0 hc0
 have HB := zaa.mk (Below.refl w.heap.size w)
 have H : ((zxb.f 1 4 (([a1] : List Int))).bind fun t370 => (if t370 = true then (if (l0.length : Int) > 7 then (zsb.j0 k l0 0 (decide ((l0.length : Int) > 7)) a1) else ((zwc.f l0 a1).bind fun t371 => (zsb.j0 k l0 0 t371 a1))) else (none))) = some (r1, r2) := h
 clear h
 obtain ⟨y367, hy367⟩ : ∃ y_ : List Int, y_ = (([a1] : List Int)) := ⟨_, rfl⟩
 replace H : ((zxb.f 1 4 y367).bind fun t370 => (if t370 = true then (if (l0.length : Int) > 7 then (zsb.j0 k l0 0 (decide ((l0.length : Int) > 7)) a1) else ((zwc.f l0 a1).bind fun t371 => (zsb.j0 k l0 0 t371 a1))) else (none))) = some (r1, r2) := by first | (rw [hy367]; with_reducible exact H) | (have H2_ := (Option.bind_some _ _).symm.trans H; rw [hy367]; with_reducible exact H2_) | (have H2_ := (Option.bind_some _ _).symm.trans H; with_reducible exact H2_) | with_reducible exact H | (rw [hy367]; exact H) | exact H
 have Ny367 := zaa.mk hy367
 clear hy367
 replace H := Option.bind_eq_some_iff.mp H
 obtain ⟨t370, A30, H⟩ := H
 replace H : (if t370 = true then (if (l0.length : Int) > 7 then (zsb.j0 k l0 0 (decide ((l0.length : Int) > 7)) a1) else ((zwc.f l0 a1).bind fun t371 => (zsb.j0 k l0 0 t371 a1))) else (none)) = some (r1, r2) := H
 have A3 := zaa.mk A30
 clear A30
 by_cases c4 : t370 = true
 · subst c4
   have H1 : (if (l0.length : Int) > 7 then (zsb.j0 k l0 0 (decide ((l0.length : Int) > 7)) a1) else ((zwc.f l0 a1).bind fun t371 => (zsb.j0 k l0 0 t371 a1))) = some (r1, r2) := by rw [if_pos rfl] at H; exact H
   clear H
   have H := H1
   clear H1
   have HC5 := zaa.mk H
   clear H
   go_enter Tryz.func31, Tryz.ntmps31
   go_upto_if 19 with (first | ((with_reducible refine zbb (N := 3) rfl ?_); refine zob ?hg (N := 3) ?hd (cs := #[.int .i64 a1]) (t := 3) ?hr ?_; (case hd => rfl); (case hg => rfl); (case hr => first | (go_simp; done) | (go_simp; rfl)); intro gb366 hg w6 hbox hb; have BK366 := zaa.mk (hbox); have GW366 := zaa.mk ((by rw [hg]; exact (zja (by repeat (first | (with_reducible first | exact HB.out | apply zda | apply zba | apply zca) | exact HB.out))) : w.heap.size ≤ gb366)); have GE366 := zaa.mk ((by rw [hg]; exact (zja (by repeat (first | (with_reducible first | exact HB.out | apply zda | apply zba | apply zca) | exact HB.out))) : w.heap.size ≤ gb366)); replace HB := zaa.mk (zma (by repeat (first | (with_reducible first | exact HB.out | apply zda | apply zba | apply zca) | exact HB.out)) hb); clear hb hbox hg; have hcz7_0 : w6.cell? ⟨gb366, 0, none⟩ = some (.int .i64 a1) := (zla BK366.out 0).trans rfl; have hfz7_0 := zka BK366.out 0) | ((with_reducible refine zbb (N := 16) rfl ?_); refine Kd.R_lit (Kd.int .i64) _ 3 ?hg (N := 16) ?hd (xs := ([a1] : List Int)) (inner := [.int .i64 a1]) (ok := fun _ => True) (okp := fun _ => True) ?hr ?hp (fun _ hk => hk) trivial (Below.refl _ _) (Nat.le_refl _) (by simp) ?_; (case hd => rfl); (case hg => rfl); (case hr => first | (go_simp; done) | (go_simp; rfl)); (case hp => exact (Reps.one (show Kd.M (Kd.int .i64) _ _ _ a1 [.int .i64 a1] from rfl) (Reps.none _ _))); intro v368 w8 ho9 hb hg_ hnew_; clear hg_ hnew_; (first | rw [← Ny367.out] at ho9 | (simp only [Int.reduceToNat] at ho9; rw [← Ny367.out] at ho9)); have HO369 := zaa.mk (Kd.znd (Kd.R_newB ho9 (g := gb366) (o := .cells #[.int .i64 a1] 3 (0, 0)) (by (with_reducible repeat (first | refine zga ?_ _ | refine zha ?_ | refine zfa ?_ _)); exact BK366.out)) (zja (by repeat (first | (with_reducible first | exact HB.out | apply zda | apply zba | apply zca | refine zea ?_ GE366.out) | exact HB.out)))); replace BK366 := zaa.mk (zna (g := gb366) (o := .cells #[.int .i64 a1] 3 (0, 0)) (by (with_reducible repeat (first | refine zga ?_ _ | refine zha ?_ | refine zfa ?_ _)); exact BK366.out) hb); replace HB := zaa.mk (zma (by repeat (first | (with_reducible first | exact HB.out | apply zda | apply zba | apply zca | refine zea ?_ GE366.out) | exact HB.out)) hb); clear hb ho9; obtain ⟨Ao10, co10, eo10⟩ := Kd.zfd HO369.out; subst eo10) | ((with_reducible refine zxa (f := 25) rfl ?_); refine zhd (some 17) rfl rfl Tryz.func25 (by kernel_rfl) rfl #[.int .i64 1, .int .i64 4, .slice Ao10 y367.length co10] rfl (by (try simp only [List.map_toArray, List.map_cons, List.map_nil]); first | done | rfl | (simp only [List.length_drop, List.length_take]; rfl)) ?_; (with_reducible refine (zxb.calls 1 4 _ _ y367 true _ ?side1 ?side2 A3.out).mono ?_); (case side1 => repeat (first | exact (Kd.zgb HO369.out).2.2 | (with_reducible refine Kd.zrb ?_ _) | (with_reducible refine Kd.zqb ?_ _) | (with_reducible refine Kd.zmc ?_))); (case side2 => exact (Kd.zgb HO369.out).2.1); rintro e w11 ⟨rfl, hb⟩; refine ⟨_, rfl, ?_⟩; replace HO369 := zaa.mk (Kd.zcb (by (with_reducible repeat (first | apply Kd.zqa | apply Kd.zpa | apply Kd.zsa)); exact HO369.out) hb); replace BK366 := zaa.mk (zna (g := gb366) (o := .cells #[.int .i64 a1] 3 (0, 0)) (by (with_reducible repeat (first | refine zga ?_ _ | refine zha ?_ | refine zfa ?_ _)); exact BK366.out) hb); replace HB := zaa.mk (zma (by repeat (first | (with_reducible first | exact HB.out | apply zda | apply zba | apply zca | refine zea ?_ GE366.out) | exact HB.out)) hb); (try clear hb); (try clear hb2); (try clear hk); (try clear hi)))
   (try simp only [Act.put, List.setIfInBounds_toArray, List.set_cons_zero, List.set_cons_succ])
   go_cut [19] (fun v19 wc => ∃ (kq : Nat) (x19_4 : Bool), v19 = .bool x19_4 ∧ zaa (zsb.j0 kq l0 0 x19_4 a1 = some (r1, r2)) ∧ zaa (kq ≤ k) ∧ zaa (wc.heap[gb366]? = some (.cells #[.int .i64 a1] 3 (0, 0))) ∧ zaa (Below w.heap.size w wc))
   case first =>
    have H := HC5.out
    clear HC5
    by_cases c12 : (l0.length : Int) > 7
    · rw [if_pos c12] at H
      have c12b0 : decide (7 < (l0.length : Int)) = true := decide_eq_true c12
      have c12b1 : decide (7 < l0.length) = true := decide_eq_true (by omega)
      clear c12
      (first | rw [c12b0] | (simp only [zpb, zzb]; rw [c12b0]) | skip)
      have H' := zaa.mk H
      clear H
      go_wp2
      go_meet
      case rel => exact ⟨_, (decide ((l0.length : Int) > 7)), (by first | rfl | (simp; done) | (simp [*]; done)), H', ⟨by first | omega | exact Nat.le_refl _⟩, ⟨by (with_reducible repeat (first | refine zga ?_ _ | refine zha ?_ | refine zfa ?_ _)); exact BK366.out⟩, ⟨by repeat (first | (with_reducible first | exact HB.out | apply zda | apply zba | apply zca | refine zea ?_ GE366.out) | exact HB.out)⟩⟩
    · rw [if_neg c12] at H
      have c12b0 : decide (7 < (l0.length : Int)) = false := decide_eq_false c12
      have c12b1 : decide (7 < l0.length) = false := decide_eq_false (by omega)
      clear c12
      (first | rw [c12b0] | (simp only [zpb, zzb]; rw [c12b0]) | skip)
      replace H := Option.bind_eq_some_iff.mp H
      obtain ⟨t371, A130, H⟩ := H
      replace H : (zsb.j0 k l0 0 t371 a1) = some (r1, r2) := H
      have A13 := zaa.mk A130
      clear A130
      have H' := zaa.mk H
      clear H
      go_wp2_with (first | ((with_reducible refine zxa (f := 38) rfl ?_); refine zhd (some 25) rfl rfl Tryz.func38 (by kernel_rfl) rfl #[.slice A0 l0.length c0, .func (.func 54) #[] #[.pointer (some ⟨gb366, 0, none⟩)]] rfl (by (try simp only [List.map_toArray, List.map_cons, List.map_nil]); first | done | rfl | (simp only [List.length_drop, List.length_take]; rfl)) ?_; (with_reducible refine (zwc.calls _ _ l0 gb366 a1 t371 _ ?side1 ?side2 ?side3 A13.out).mono ?_); (case side1 => repeat (first | exact (Kd.zkc HR0.out HB.out) | (with_reducible refine Kd.zrb ?_ _) | (with_reducible refine Kd.zqb ?_ _) | (with_reducible refine Kd.zmc ?_))); (case side2 => exact HC0.out); (case side3 => (with_reducible repeat (first | refine zga ?_ _ | refine zha ?_ | refine zfa ?_ _)); exact BK366.out); rintro e w14 ⟨rfl, hb⟩; refine ⟨_, rfl, ?_⟩; replace HO369 := zaa.mk (Kd.zcb (by (with_reducible repeat (first | apply Kd.zqa | apply Kd.zpa | apply Kd.zsa)); exact HO369.out) hb); replace BK366 := zaa.mk (zna (g := gb366) (o := .cells #[.int .i64 a1] 3 (0, 0)) (by (with_reducible repeat (first | refine zga ?_ _ | refine zha ?_ | refine zfa ?_ _)); exact BK366.out) hb); replace HB := zaa.mk (zma (by repeat (first | (with_reducible first | exact HB.out | apply zda | apply zba | apply zca | refine zea ?_ GE366.out) | exact HB.out)) hb); (try clear hb); (try clear hb2); (try clear hk); (try clear hi)))
      go_meet
      case rel => exact ⟨_, (t371), (by first | rfl | (simp; done) | (simp [*]; done)), H', ⟨by first | omega | exact Nat.le_refl _⟩, ⟨by (with_reducible repeat (first | refine zga ?_ _ | refine zha ?_ | refine zfa ?_ _)); exact BK366.out⟩, ⟨by repeat (first | (with_reducible first | exact HB.out | apply zda | apply zba | apply zca | refine zea ?_ GE366.out) | exact HB.out)⟩⟩
   case rest =>
    clear HC5
    try clear c1
    try clear c2
    try clear p2
    try clear c3
    try clear c4
    try clear c12
    try clear c12b0
    try clear c12b1
    try clear hcz7_0
    try clear hfz7_0
    obtain ⟨kq, x19_4, rfl, HA, HJ4, BK366, HB⟩ := hcut
    cases kq with
    | zero => exact absurd HA.out (by simp [zsb.j0])
    | succ kj4 =>
     have H := HA.out
     clear HA
     simp only [zsb.j0] at H
     by_cases c15 : x19_4 = true
     · subst c15
       have H1 : (none) = some (r1, r2) := by rw [if_pos rfl] at H; exact H
       clear H
       have H := H1
       clear H1
       exact absurd H (by simp)
     · replace c15 := Bool.eq_false_iff.mpr c15
       subst c15
       have H1 : ((zee.f l0).bind fun t372 => (if t372 = true then (none) else ((zed.f kj4 l0).bind fun t373 => (if t373 = true then (none) else (zsb.l0 kj4 l0 0 ([] : List Int) l0 (l0.length : Int) 0 a1))))) = some (r1, r2) := by rw [if_neg (show ¬ (false = true) by decide)] at H; exact H
       clear H
       have H := H1
       clear H1
       replace H := Option.bind_eq_some_iff.mp H
       obtain ⟨t372, A160, H⟩ := H
       replace H : (if t372 = true then (none) else ((zed.f kj4 l0).bind fun t373 => (if t373 = true then (none) else (zsb.l0 kj4 l0 0 ([] : List Int) l0 (l0.length : Int) 0 a1)))) = some (r1, r2) := H
       have A16 := zaa.mk A160
       clear A160
       by_cases c17 : t372 = true
       · subst c17
         have H1 : (none) = some (r1, r2) := by rw [if_pos rfl] at H; exact H
         clear H
         have H := H1
         clear H1
         exact absurd H (by simp)
       · replace c17 := Bool.eq_false_iff.mpr c17
         subst c17
         have H1 : ((zed.f kj4 l0).bind fun t373 => (if t373 = true then (none) else (zsb.l0 kj4 l0 0 ([] : List Int) l0 (l0.length : Int) 0 a1))) = some (r1, r2) := by rw [if_neg (show ¬ (false = true) by decide)] at H; exact H
         clear H
         have H := H1
         clear H1
         replace H := Option.bind_eq_some_iff.mp H
         obtain ⟨t373, A180, H⟩ := H
         replace H : (if t373 = true then (none) else (zsb.l0 kj4 l0 0 ([] : List Int) l0 (l0.length : Int) 0 a1)) = some (r1, r2) := H
         have A18 := zaa.mk A180
         clear A180
         by_cases c19 : t373 = true
         · subst c19
           have H1 : (none) = some (r1, r2) := by rw [if_pos rfl] at H; exact H
           clear H
           have H := H1
           clear H1
           exact absurd H (by simp)
         · replace c19 := Bool.eq_false_iff.mpr c19
           subst c19
           have H1 : (zsb.l0 kj4 l0 0 ([] : List Int) l0 (l0.length : Int) 0 a1) = some (r1, r2) := by rw [if_neg (show ¬ (false = true) by decide)] at H; exact H
           clear H
           have H := H1
           clear H1
           have H' := zaa.mk H
           clear H
           go_wp2_with (first | ((with_reducible refine zxa (f := 38) rfl ?_); refine zhd (some 29) rfl rfl Tryz.func38 (by kernel_rfl) rfl #[.slice A0 l0.length c0, .func (.func 55) #[] #[]] rfl (by (try simp only [List.map_toArray, List.map_cons, List.map_nil]); first | done | rfl | (simp only [List.length_drop, List.length_take]; rfl)) ?_; (with_reducible refine (zee.calls _ _ l0  false _ ?side1 ?side2 A16.out).mono ?_); (case side1 => repeat (first | exact (Kd.zkc HR0.out HB.out) | (with_reducible refine Kd.zrb ?_ _) | (with_reducible refine Kd.zqb ?_ _) | (with_reducible refine Kd.zmc ?_))); (case side2 => exact HC0.out); rintro e w20 ⟨rfl, hb⟩; refine ⟨_, rfl, ?_⟩; replace BK366 := zaa.mk (zna (g := gb366) (o := .cells #[.int .i64 a1] 3 (0, 0)) (by (with_reducible repeat (first | refine zga ?_ _ | refine zha ?_ | refine zfa ?_ _)); exact BK366.out) hb); replace HB := zaa.mk (zma (by repeat (first | (with_reducible first | exact HB.out | apply zda | apply zba | apply zca | refine zea ?_ GE366.out) | exact HB.out)) hb); (try clear hb); (try clear hb2); (try clear hk); (try clear hi)) | ((with_reducible refine zxa (f := 38) rfl ?_); refine zhd (some 32) rfl rfl Tryz.func38 (by kernel_rfl) rfl #[.slice A0 l0.length c0, .func (.func 57) #[] #[]] rfl (by (try simp only [List.map_toArray, List.map_cons, List.map_nil]); first | done | rfl | (simp only [List.length_drop, List.length_take]; rfl)) ?_; (with_reducible refine (zed.calls kj4 _ _ l0  false _ ?side1 ?side2 A18.out).mono ?_); (case side1 => repeat (first | exact (Kd.zkc HR0.out HB.out) | (with_reducible refine Kd.zrb ?_ _) | (with_reducible refine Kd.zqb ?_ _) | (with_reducible refine Kd.zmc ?_))); (case side2 => exact HC0.out); rintro e w21 ⟨rfl, hb⟩; refine ⟨_, rfl, ?_⟩; replace BK366 := zaa.mk (zna (g := gb366) (o := .cells #[.int .i64 a1] 3 (0, 0)) (by (with_reducible repeat (first | refine zga ?_ _ | refine zha ?_ | refine zfa ?_ _)); exact BK366.out) hb); replace HB := zaa.mk (zma (by repeat (first | (with_reducible first | exact HB.out | apply zda | apply zba | apply zca | refine zea ?_ GE366.out) | exact HB.out)) hb); (try clear hb); (try clear hb2); (try clear hk); (try clear hi)))
           go_loopg [4, 8, 35] kj4 (fun kq v4 v8 v35 w' => ∃ (x4_2 : Int) (x8_2 : List Int) (x35_2 : Int), v4 = .int .i64 x4_2 ∧ v35 = .int .i64 x35_2 ∧ zaa (zsb.l0 kq l0 x4_2 x8_2 l0 (l0.length : Int) x35_2 a1 = some (r1, r2)) ∧ zaa (kq ≤ kj4) ∧ zaa (Kd.R (Kd.int .i64) 3 w' w.heap.size (fun k_ => k_ ≠ gb366) v8 x8_2) ∧ zaa (w'.heap[gb366]? = some (.cells #[.int .i64 a1] 3 (0, 0))) ∧ zaa (Below w.heap.size w w'))
           case atStart => exact ⟨(0), (([] : List Int)), (0), (by first | rfl | (simp; done) | (simp [*]; done)), (by first | rfl | (simp; done) | (simp [*]; done)), H', ⟨Nat.le_refl _⟩, ⟨by first | exact Kd.R_nil _ _ _ _ _ | exact Kd.N_nil _ _ _ _ _ | exact Kd.V_nil _ _ _ _ _ | exact Kd.Q_nil _ _ _ _ _ | exact Kd.S_nil _ _ _ _ _⟩, ⟨by (with_reducible repeat (first | refine zga ?_ _ | refine zha ?_ | refine zfa ?_ _)); exact BK366.out⟩, ⟨by repeat (first | (with_reducible first | exact HB.out | apply zda | apply zba | apply zca | refine zea ?_ GE366.out) | exact HB.out)⟩⟩
           case round =>
            clear H'
            try clear c1
            try clear c2
            try clear p2
            try clear c3
            try clear c4
            try clear c12
            try clear c12b0
            try clear c12b1
            try clear c15
            try clear c17
            try clear c19
            try clear hcz7_0
            try clear hfz7_0
            try clear p2
            obtain ⟨x4_2, x8_2, x35_2, rfl, rfl, HA, HK2, HO_8, BK366, HB⟩ := hrel
            cases gk with
            | zero => exact absurd HA.out (by simp [zsb.l0])
            | succ k2 =>
             have H := HA.out
             clear HA
             simp only [zsb.l0] at H
             by_cases c22 : x35_2 < (l0.length : Int)
             · rw [if_pos c22] at H
               have c22b0 : decide (x35_2 < (l0.length : Int)) = true := decide_eq_true c22
               clear c22
               by_cases c23 : 0 ≤ x35_2
               · rw [if_pos c23] at H
                 have c23b0 : decide (0 ≤ x35_2) = true := decide_eq_true c23
                 clear c23
                 by_cases c24 : x35_2 < (l0.length : Int)
                 · rw [if_pos c24] at H
                   have c24b0 : decide (x35_2 < (l0.length : Int)) = true := decide_eq_true c24
                   clear c24
                   have H' := zaa.mk H
                   clear H
                   have p374 : 0 ≤ (x35_2 : Int) := of_decide_eq_true (by first | (with_reducible assumption) | assumption)
                   have q374 : x35_2 < (l0.length : Int) := of_decide_eq_true (by first | (with_reducible assumption) | assumption)
                   obtain ⟨ad374, A374_0, c374_0, e374, hx374_0, hl374_0, hi374_0⟩ := at_L3 HR0.out x35_2 p374 q374
                   cases e374
                   replace hx374_0 := (HB.out.cell (World.block_lt_of_cell? w _ hx374_0)).trans hx374_0
                   have HR374_0 := zaa.mk hi374_0
                   have HC374_0 := zaa.mk hl374_0
                   clear hi374_0 hl374_0
                   replace p374 := eq_true p374
                   replace q374 := eq_true q374
                   go_wp2
                   go_loopg [4, 8, 42] k2 (fun kq v4 v8 v42 w' => ∃ (x4_3 : Int) (x8_3 : List Int) (x42_3 : Int), v4 = .int .i64 x4_3 ∧ v42 = .int .i64 x42_3 ∧ zaa (zsb.l1 kq l0 x4_3 x8_3 x35_2 l0 (l0.length : Int) x35_2 (rd_L3 l0 x35_2) ((rd_L3 l0 x35_2).length : Int) x42_3 a1 = some (r1, r2)) ∧ zaa (kq ≤ k2) ∧ zaa (Kd.R (Kd.int .i64) 3 w' w.heap.size (fun k_ => k_ ≠ gb366) v8 x8_3) ∧ zaa (w'.heap[gb366]? = some (.cells #[.int .i64 a1] 3 (0, 0))) ∧ zaa (Below w.heap.size w w'))
                   case atStart => exact ⟨(x4_2), (x8_2), (0), (by first | rfl | (simp; done) | (simp [*]; done)), (by first | rfl | (simp; done) | (simp [*]; done)), H', ⟨Nat.le_refl _⟩, ⟨by (with_reducible repeat (first | apply Kd.zqa | apply Kd.zpa | apply Kd.zsa)); exact HO_8.out⟩, ⟨by (with_reducible repeat (first | refine zga ?_ _ | refine zha ?_ | refine zfa ?_ _)); exact BK366.out⟩, ⟨by repeat (first | (with_reducible first | exact HB.out | apply zda | apply zba | apply zca | refine zea ?_ GE366.out) | exact HB.out)⟩⟩
                   case round =>
                    clear H'
                    try clear c1
                    try clear c2
                    try clear p2
                    try clear c3
                    try clear p3
                    try clear q3
                    try clear hx3
                    try clear c4
                    try clear c12
                    try clear c12b0
                    try clear c12b1
                    try clear c15
                    try clear c17
                    try clear c19
                    try clear c22
                    try clear c22b0
                    try clear c23
                    try clear c23b0
                    try clear c24
                    try clear c24b0
                    try clear hcz7_0
                    try clear hfz7_0
                    try clear hx374_0
                    try clear p2
                    try clear p374
                    try clear q374
                    obtain ⟨x4_3, x8_3, x42_3, rfl, rfl, HA, HK3, HO_8, BK366, HB⟩ := hrel
                    cases gk with
                    | zero => exact absurd HA.out (by simp [zsb.l1])
                    | succ k3 =>
                     have H := HA.out
                     clear HA
                     simp only [zsb.l1] at H
                     by_cases c25 : x42_3 < ((rd_L3 l0 x35_2).length : Int)
                     · rw [if_pos c25] at H
                       have c25b0 : decide (x42_3 < ((rd_L3 l0 x35_2).length : Int)) = true := decide_eq_true c25
                       clear c25
                       by_cases c26 : 0 ≤ x42_3
                       · rw [if_pos c26] at H
                         have c26b0 : decide (0 ≤ x42_3) = true := decide_eq_true c26
                         clear c26
                         by_cases c27 : x42_3 < ((rd_L3 l0 x35_2).length : Int)
                         · rw [if_pos c27] at H
                           have c27b0 : decide (x42_3 < ((rd_L3 l0 x35_2).length : Int)) = true := decide_eq_true c27
                           clear c27
                           replace H := Option.bind_eq_some_iff.mp H
                           obtain ⟨t376, A280, H⟩ := H
                           replace H : (if t376 = true then (zsb.l1 k3 l0 x4_3 x8_3 x35_2 l0 (l0.length : Int) x35_2 (rd_L3 l0 x35_2) ((rd_L3 l0 x35_2).length : Int) (wrap64 (x42_3 + 1)) a1) else (if (x8_3.length : Int) = a1 then (if 0 ≤ x35_2 then (if x35_2 ≤ (l0.length : Int) then ((print_drop.f k3 x8_3 (l0.drop (x35_2 : Int).toNat)).bind fun t381 => (if t381.length < 17592186044416 then (zsb.l1 k3 l0 (wrap64 (x4_3 + 1)) (t381 ++ [rd (rd_L3 l0 x35_2) x42_3]) x35_2 l0 (l0.length : Int) x35_2 (rd_L3 l0 x35_2) ((rd_L3 l0 x35_2).length : Int) (wrap64 (x42_3 + 1)) a1) else (none))) else (none)) else (none)) else (if x8_3.length < 17592186044416 then (zsb.l1 k3 l0 x4_3 (x8_3 ++ [rd (rd_L3 l0 x35_2) x42_3]) x35_2 l0 (l0.length : Int) x35_2 (rd_L3 l0 x35_2) ((rd_L3 l0 x35_2).length : Int) (wrap64 (x42_3 + 1)) a1) else (none)))) = some (r1, r2) := H
                           have A28 := zaa.mk A280
                           clear A280
                           by_cases c29 : t376 = true
                           · subst c29
                             have H1 : (zsb.l1 k3 l0 x4_3 x8_3 x35_2 l0 (l0.length : Int) x35_2 (rd_L3 l0 x35_2) ((rd_L3 l0 x35_2).length : Int) (wrap64 (x42_3 + 1)) a1) = some (r1, r2) := by rw [if_pos rfl] at H; exact H
                             clear H
                             have H := H1
                             clear H1
                             have H' := zaa.mk H
                             clear H
                             have p375 : 0 ≤ (x42_3 : Int) := of_decide_eq_true (by first | (with_reducible assumption) | assumption)
                             have q375 : x42_3 < ((rd_L3 l0 x35_2).length : Int) := of_decide_eq_true (by first | (with_reducible assumption) | assumption)
                             obtain ⟨ad375, e375, hx375_0⟩ := Kd.at_int HR374_0.out x42_3 p375 q375
                             cases e375
                             replace hx375_0 := (HB.out.cell (World.block_lt_of_cell? w _ hx375_0)).trans hx375_0
                             replace p375 := eq_true p375
                             replace q375 := eq_true q375
                             obtain ⟨Ao30, co30, eo30⟩ := Kd.zfd HO_8.out
                             subst eo30
                             go_wp2_with (first | ((with_reducible refine zxa (f := 58) rfl ?_); refine zhd (some 48) rfl rfl Tryz.func58 (by kernel_rfl) rfl #[.slice Ao30 x8_3.length co30, .int .i64 (rd (rd_L3 l0 x35_2) x42_3)] rfl (by (try simp only [List.map_toArray, List.map_cons, List.map_nil]); first | done | rfl | (simp only [List.length_drop, List.length_take]; rfl)) ?_; (with_reducible refine (ztd.calls k3 _ _ x8_3 (rd (rd_L3 l0 x35_2) x42_3) true _ ?side1 ?side2 A28.out).mono ?_); (case side1 => repeat (first | exact (Kd.zgb HO_8.out).2.2 | (with_reducible refine Kd.zrb ?_ _) | (with_reducible refine Kd.zqb ?_ _) | (with_reducible refine Kd.zmc ?_))); (case side2 => exact (Kd.zgb HO_8.out).2.1); rintro e w' ⟨rfl, ⟨nd, rfl⟩⟩; refine ⟨_, rfl, ?_⟩))
                             go_roundg k3
                             case measure => have := HJ4.out; have := HK2.out; have := HK3.out; omega
                             case rel => exact ⟨(x4_3), (x8_3), (wrap64 (x42_3 + 1)), (by first | rfl | (simp; done) | (simp [*]; done)), (by first | rfl | (simp; done) | (simp [*]; done)), H', ⟨by have := HJ4.out; have := HK2.out; have := HK3.out; omega⟩, ⟨by (with_reducible repeat (first | apply Kd.zqa | apply Kd.zpa | apply Kd.zsa)); exact HO_8.out⟩, ⟨by (with_reducible repeat (first | refine zga ?_ _ | refine zha ?_ | refine zfa ?_ _)); exact BK366.out⟩, ⟨by repeat (first | (with_reducible first | exact HB.out | apply zda | apply zba | apply zca | refine zea ?_ GE366.out) | exact HB.out)⟩⟩
                           · replace c29 := Bool.eq_false_iff.mpr c29
                             subst c29
                             have H1 : (if (x8_3.length : Int) = a1 then (if 0 ≤ x35_2 then (if x35_2 ≤ (l0.length : Int) then ((print_drop.f k3 x8_3 (l0.drop (x35_2 : Int).toNat)).bind fun t381 => (if t381.length < 17592186044416 then (zsb.l1 k3 l0 (wrap64 (x4_3 + 1)) (t381 ++ [rd (rd_L3 l0 x35_2) x42_3]) x35_2 l0 (l0.length : Int) x35_2 (rd_L3 l0 x35_2) ((rd_L3 l0 x35_2).length : Int) (wrap64 (x42_3 + 1)) a1) else (none))) else (none)) else (none)) else (if x8_3.length < 17592186044416 then (zsb.l1 k3 l0 x4_3 (x8_3 ++ [rd (rd_L3 l0 x35_2) x42_3]) x35_2 l0 (l0.length : Int) x35_2 (rd_L3 l0 x35_2) ((rd_L3 l0 x35_2).length : Int) (wrap64 (x42_3 + 1)) a1) else (none))) = some (r1, r2) := by rw [if_neg (show ¬ (false = true) by decide)] at H; exact H
                             clear H
                             have H := H1
                             clear H1
                             by_cases c31 : (x8_3.length : Int) = a1
                             · rw [if_pos c31] at H
                               have c31b0 : ((x8_3.length : Int) == a1) = true := beq_iff_eq.mpr c31
                               have c31b1 : ((x8_3.length : Int) != a1) = false := bne_eq_false_iff_eq.mpr c31
                               clear c31
                               by_cases c32 : 0 ≤ x35_2
                               · rw [if_pos c32] at H
                                 have c32b0 := eq_true c32
                                 have c32b1 : decide (0 ≤ x35_2) = true := decide_eq_true c32
                                 clear c32
                                 by_cases c33 : x35_2 ≤ (l0.length : Int)
                                 · rw [if_pos c33] at H
                                   have c33b0 := eq_true c33
                                   have c33b1 : decide (x35_2 ≤ (l0.length : Int)) = true := decide_eq_true c33
                                   clear c33
                                   obtain ⟨y377, hy377⟩ : ∃ y_ : List (List Int), y_ = (l0.drop (x35_2 : Int).toNat) := ⟨_, rfl⟩
                                   replace H : ((print_drop.f k3 x8_3 y377).bind fun t381 => (if t381.length < 17592186044416 then (zsb.l1 k3 l0 (wrap64 (x4_3 + 1)) (t381 ++ [rd (rd_L3 l0 x35_2) x42_3]) x35_2 l0 (l0.length : Int) x35_2 (rd_L3 l0 x35_2) ((rd_L3 l0 x35_2).length : Int) (wrap64 (x42_3 + 1)) a1) else (none))) = some (r1, r2) := by first | (rw [hy377]; with_reducible exact H) | (have H2_ := (Option.bind_some _ _).symm.trans H; rw [hy377]; with_reducible exact H2_) | (have H2_ := (Option.bind_some _ _).symm.trans H; with_reducible exact H2_) | with_reducible exact H | (rw [hy377]; exact H) | exact H
                                   have Ny377 := zaa.mk hy377
                                   clear hy377
                                   replace H := Option.bind_eq_some_iff.mp H
                                   obtain ⟨t381, A340, H⟩ := H
                                   replace H : (if t381.length < 17592186044416 then (zsb.l1 k3 l0 (wrap64 (x4_3 + 1)) (t381 ++ [rd (rd_L3 l0 x35_2) x42_3]) x35_2 l0 (l0.length : Int) x35_2 (rd_L3 l0 x35_2) ((rd_L3 l0 x35_2).length : Int) (wrap64 (x42_3 + 1)) a1) else (none)) = some (r1, r2) := H
                                   have A34 := zaa.mk A340
                                   clear A340
                                   by_cases c35 : t381.length < 17592186044416
                                   · rw [if_pos c35] at H
                                     have LMc35 := zaa.mk c35
                                     clear c35
                                     obtain ⟨y384, hy384⟩ : ∃ y_ : List Int, y_ = (t381 ++ [rd (rd_L3 l0 x35_2) x42_3]) := ⟨_, rfl⟩
                                     replace H : (zsb.l1 k3 l0 (wrap64 (x4_3 + 1)) y384 x35_2 l0 (l0.length : Int) x35_2 (rd_L3 l0 x35_2) ((rd_L3 l0 x35_2).length : Int) (wrap64 (x42_3 + 1)) a1) = some (r1, r2) := by first | (rw [hy384]; with_reducible exact H) | (have H2_ := (Option.bind_some _ _).symm.trans H; rw [hy384]; with_reducible exact H2_) | (have H2_ := (Option.bind_some _ _).symm.trans H; with_reducible exact H2_) | with_reducible exact H | (rw [hy384]; exact H) | exact H
                                     have Ny384 := zaa.mk hy384
                                     clear hy384
                                     have H' := zaa.mk H
                                     clear H
                                     have p375 : 0 ≤ (x42_3 : Int) := of_decide_eq_true (by first | (with_reducible assumption) | assumption)
                                     have q375 : x42_3 < ((rd_L3 l0 x35_2).length : Int) := of_decide_eq_true (by first | (with_reducible assumption) | assumption)
                                     obtain ⟨ad375, e375, hx375_0⟩ := Kd.at_int HR374_0.out x42_3 p375 q375
                                     cases e375
                                     replace hx375_0 := (HB.out.cell (World.block_lt_of_cell? w _ hx375_0)).trans hx375_0
                                     replace p375 := eq_true p375
                                     replace q375 := eq_true q375
                                     obtain ⟨Ao36, co36, eo36⟩ := Kd.zfd HO_8.out
                                     subst eo36
                                     go_wp2_with (first | ((with_reducible refine zxa (f := 58) rfl ?_); refine zhd (some 48) rfl rfl Tryz.func58 (by kernel_rfl) rfl #[.slice Ao36 x8_3.length co36, .int .i64 (rd (rd_L3 l0 x35_2) x42_3)] rfl (by (try simp only [List.map_toArray, List.map_cons, List.map_nil]); first | done | rfl | (simp only [List.length_drop, List.length_take]; rfl)) ?_; (with_reducible refine (ztd.calls k3 _ _ x8_3 (rd (rd_L3 l0 x35_2) x42_3) false _ ?side1 ?side2 A28.out).mono ?_); (case side1 => repeat (first | exact (Kd.zgb HO_8.out).2.2 | (with_reducible refine Kd.zrb ?_ _) | (with_reducible refine Kd.zqb ?_ _) | (with_reducible refine Kd.zmc ?_))); (case side2 => exact (Kd.zgb HO_8.out).2.1); rintro e w' ⟨rfl, ⟨nd, rfl⟩⟩; refine ⟨_, rfl, ?_⟩; have hcz37_0 : wr.cell? ⟨gb366, 0, none⟩ = some (.int .i64 a1) := (zla BK366.out 0).trans rfl; have hfz37_0 := zka BK366.out 0; have q38 : (x35_2 : Int) ≤ ((l0.length : Int) : Int) := of_decide_eq_true (by first | (with_reducible assumption) | assumption); obtain ⟨i038, hi038, _, hsz38, _⟩ := info_parts info24; have hroom38 : l0.length ≤ c0 := HC0.out; have hC38 : Kd.C (Kd.slice 3 (Kd.int .i64)) _ (some ad374) l0.length l0 := HR0.out; have q038 : (0 : Int) ≤ (x35_2 : Int) := of_decide_eq_true (by first | (with_reducible assumption) | assumption); have hcut38 := cut_from (P := Tryz.prog) 38 24 .i64 Tryz.underlying38 hi038 1 hsz38 (some ad374) l0.length c0 x35_2 q038 q38; have hr38 := Kd.C_drop (m := (x35_2 : Int).toNat) (c := c0) hC38 (by omega) hroom38; obtain ⟨A38, hA38⟩ : ∃ A1, A1 = (if c0 = (x35_2 : Int).toNat then (some ad374) else ((some ad374) : Option Addr).map (·.add ((x35_2 : Int).toNat * 1))) := ⟨_, rfl⟩; obtain ⟨c38, hc38⟩ : ∃ c1, c1 = c0 - (x35_2 : Int).toNat := ⟨_, rfl⟩; have hy38 : y377.length = l0.length - (x35_2 : Int).toNat := (by rw [Ny377.out, List.length_drop] <;> omega); rw [show (l0).drop (x35_2 : Int).toNat = y377 from Ny377.out.symm] at hr38; replace hr38 : Kd.C (Kd.slice 3 (Kd.int .i64)) _ A38 y377.length y377 := (by rw [hA38]; exact hr38); rw [← hy38, ← hA38, ← hc38] at hcut38; have HR380 := zaa.mk hr38; have HC380 := zaa.mk (show y377.length ≤ c38 from by rw [hy38, hc38]; exact Nat.sub_le_sub_right hroom38 _); clear hr38 hC38 hroom38 hi038 hsz38 hc38; have KY38 := zaa.mk hy38; have KA38 := zaa.mk hA38; clear hy38 hA38; replace q38 := eq_true q38) | ((with_reducible refine zxa (f := 59) rfl ?_); refine zhd (some 59) rfl rfl Tryz.func59 (by kernel_rfl) rfl #[.slice Ao36 x8_3.length co36, .slice A38 y377.length c38] rfl (by (try simp only [List.map_toArray, List.map_cons, List.map_nil]); first | done | rfl | (simp only [List.length_drop, List.length_take]; rfl)) ?_; (with_reducible refine (print_drop.calls k3 _ _ x8_3 _ _ y377 t381 _ ?side1 ?side2 ?side3 ?side4 A34.out).mono ?_); (case side1 => repeat (first | exact (Kd.zgb HO_8.out).2.2 | (with_reducible refine Kd.zrb ?_ _) | (with_reducible refine Kd.zqb ?_ _) | (with_reducible refine Kd.zmc ?_))); (case side2 => exact (Kd.zgb HO_8.out).2.1); (case side3 => repeat (first | exact (Kd.zkc HR380.out (by repeat (first | (with_reducible first | exact HB.out | apply zda | apply zba | apply zca | refine zea ?_ GE366.out) | exact HB.out))) | (with_reducible refine Kd.zrb ?_ _) | (with_reducible refine Kd.zqb ?_ _) | (with_reducible refine Kd.zmc ?_))); (case side4 => exact HC380.out); rintro e w39 ⟨v382, rfl, ho0, hb⟩; refine ⟨_, rfl, ?_⟩; have HO383 := zaa.mk (Kd.znd (Kd.R_newB (Kd.R_new' ho0 (Kd.R_lt (by (with_reducible repeat (first | apply Kd.zqa | apply Kd.zpa | apply Kd.zsa)); exact HO_8.out))) (g := gb366) (o := .cells #[.int .i64 a1] 3 (0, 0)) (by (with_reducible repeat (first | refine zga ?_ _ | refine zha ?_ | refine zfa ?_ _)); exact BK366.out)) (zja (by repeat (first | (with_reducible first | exact HB.out | apply zda | apply zba | apply zca | refine zea ?_ GE366.out) | exact HB.out)))); replace HO_8 := zaa.mk (Kd.R_elder' (by (with_reducible repeat (first | apply Kd.zqa | apply Kd.zpa | apply Kd.zsa)); exact HO_8.out) (Kd.zxd ho0) hb); replace BK366 := zaa.mk (zna (g := gb366) (o := .cells #[.int .i64 a1] 3 (0, 0)) (by (with_reducible repeat (first | refine zga ?_ _ | refine zha ?_ | refine zfa ?_ _)); exact BK366.out) hb); replace HB := zaa.mk (zma (by repeat (first | (with_reducible first | exact HB.out | apply zda | apply zba | apply zca | refine zea ?_ GE366.out) | exact HB.out)) hb); (try clear hb); (try clear hb2); (try clear hk); (try clear hi); (try clear ho0)) | ((with_reducible refine gate_builtin (b := .append) (xs := #[.tmp 60, .tmp 62]) rfl ?_); at_builtin; refine Kd.R_append (Kd.int .i64) (w0 := w) w.heap.size rfl (.tmp 60) (.tmp 62) 24 3 (.int .i64 0) 8 rfl Tryz.underlying24 info3 rfl (by decide) (by omega) v382 t381 (rd (rd_L3 l0 x35_2) x42_3) [.int .i64 (rd (rd_L3 l0 x35_2) x42_3)] (fun k_ => some k_ ≠ (.slice Ao36 x8_3.length co36 : Value).ownBlock ∧ k_ ≠ gb366) (fun _ => False) rfl rfl ?aP (fun _ hk => hk.elim) ?aF ?aO ?aB ?aS ?aL ?_; (case aP => exact rfl); (case aB => exact (by repeat (first | (with_reducible first | exact HB.out | apply zda | apply zba | apply zca | refine zea ?_ GE366.out) | exact HB.out))); (case aF => exact (fun k_ hk => ⟨Kd.fresh' (Kd.R_lt (by (with_reducible repeat (first | apply Kd.zqa | apply Kd.zpa | apply Kd.zsa)); exact HO_8.out)) k_ hk, Kd.freshB (g := gb366) (o := .cells #[.int .i64 a1] 3 (0, 0)) (by (with_reducible repeat (first | refine zga ?_ _ | refine zha ?_ | refine zfa ?_ _)); exact BK366.out) k_ hk⟩)); (case aO => exact (by (with_reducible repeat (first | apply Kd.zqa | apply Kd.zpa | apply Kd.zsa)); exact Kd.zsd HO383.out (fun _ hk => ⟨hk.1.2, hk.2⟩))); (case aS => exact (zja (by repeat (first | (with_reducible first | exact HB.out | apply zda | apply zba | apply zca | refine zea ?_ GE366.out) | exact HB.out)))); (case aL => have := LMc35.out; omega); intro v385 w40 ho hb hg hat; rw [← Ny384.out] at ho; replace HO_8 := zaa.mk (Kd.R_after (ok := (fun k_ => k_ ≠ gb366)) (by (with_reducible repeat (first | apply Kd.zqa | apply Kd.zpa | apply Kd.zsa)); exact HO_8.out) hg hat); replace BK366 := zaa.mk (blk_grown (g := gb366) (o := .cells #[.int .i64 a1] 3 (0, 0)) (by (with_reducible repeat (first | refine zga ?_ _ | refine zha ?_ | refine zfa ?_ _)); exact BK366.out) hg (Kd.R_away HO383.out (fun _ hk => hk.2))); replace HB := zaa.mk (hb); have HO386 := zaa.mk (ho); clear HO383; clear ho hb hg hat))
                                     go_roundg k3
                                     case measure => have := HJ4.out; have := HK2.out; have := HK3.out; omega
                                     case rel => exact ⟨(wrap64 (x4_3 + 1)), (y384), (wrap64 (x42_3 + 1)), (by first | rfl | (simp; done) | (simp [*]; done)), (by first | rfl | (simp; done) | (simp [*]; done)), H', ⟨by have := HJ4.out; have := HK2.out; have := HK3.out; omega⟩, ⟨by (with_reducible repeat (first | apply Kd.zqa | apply Kd.zpa | apply Kd.zsa)); exact Kd.zsd HO386.out (fun _ hk => hk.2)⟩, ⟨by (with_reducible repeat (first | refine zga ?_ _ | refine zha ?_ | refine zfa ?_ _)); exact BK366.out⟩, ⟨by repeat (first | (with_reducible first | exact HB.out | apply zda | apply zba | apply zca | refine zea ?_ GE366.out) | exact HB.out)⟩⟩
                                   · rw [if_neg c35] at H
                                     exact absurd H (by simp)
                                 · rw [if_neg c33] at H
                                   exact absurd H (by simp)
                               · rw [if_neg c32] at H
                                 exact absurd H (by simp)
                             · rw [if_neg c31] at H
                               have c31b0 : ((x8_3.length : Int) == a1) = false := beq_eq_false_iff_ne.mpr c31
                               have c31b1 : ((x8_3.length : Int) != a1) = true := bne_iff_ne.mpr c31
                               by_cases c41 : x8_3.length < 17592186044416
                               · rw [if_pos c41] at H
                                 have LMc41 := zaa.mk c41
                                 clear c41
                                 obtain ⟨y387, hy387⟩ : ∃ y_ : List Int, y_ = (x8_3 ++ [rd (rd_L3 l0 x35_2) x42_3]) := ⟨_, rfl⟩
                                 replace H : (zsb.l1 k3 l0 x4_3 y387 x35_2 l0 (l0.length : Int) x35_2 (rd_L3 l0 x35_2) ((rd_L3 l0 x35_2).length : Int) (wrap64 (x42_3 + 1)) a1) = some (r1, r2) := by first | (rw [hy387]; with_reducible exact H) | (have H2_ := (Option.bind_some _ _).symm.trans H; rw [hy387]; with_reducible exact H2_) | (have H2_ := (Option.bind_some _ _).symm.trans H; with_reducible exact H2_) | with_reducible exact H | (rw [hy387]; exact H) | exact H
                                 have Ny387 := zaa.mk hy387
                                 clear hy387
                                 have H' := zaa.mk H
                                 clear H
                                 have p375 : 0 ≤ (x42_3 : Int) := of_decide_eq_true (by first | (with_reducible assumption) | assumption)
                                 have q375 : x42_3 < ((rd_L3 l0 x35_2).length : Int) := of_decide_eq_true (by first | (with_reducible assumption) | assumption)
                                 obtain ⟨ad375, e375, hx375_0⟩ := Kd.at_int HR374_0.out x42_3 p375 q375
                                 cases e375
                                 replace hx375_0 := (HB.out.cell (World.block_lt_of_cell? w _ hx375_0)).trans hx375_0
                                 replace p375 := eq_true p375
                                 replace q375 := eq_true q375
                                 obtain ⟨Ao42, co42, eo42⟩ := Kd.zfd HO_8.out
                                 subst eo42
                                 go_wp2_with (first | ((with_reducible refine zxa (f := 58) rfl ?_); refine zhd (some 48) rfl rfl Tryz.func58 (by kernel_rfl) rfl #[.slice Ao42 x8_3.length co42, .int .i64 (rd (rd_L3 l0 x35_2) x42_3)] rfl (by (try simp only [List.map_toArray, List.map_cons, List.map_nil]); first | done | rfl | (simp only [List.length_drop, List.length_take]; rfl)) ?_; (with_reducible refine (ztd.calls k3 _ _ x8_3 (rd (rd_L3 l0 x35_2) x42_3) false _ ?side1 ?side2 A28.out).mono ?_); (case side1 => repeat (first | exact (Kd.zgb HO_8.out).2.2 | (with_reducible refine Kd.zrb ?_ _) | (with_reducible refine Kd.zqb ?_ _) | (with_reducible refine Kd.zmc ?_))); (case side2 => exact (Kd.zgb HO_8.out).2.1); rintro e w' ⟨rfl, ⟨nd, rfl⟩⟩; refine ⟨_, rfl, ?_⟩; have hcz43_0 : wr.cell? ⟨gb366, 0, none⟩ = some (.int .i64 a1) := (zla BK366.out 0).trans rfl; have hfz43_0 := zka BK366.out 0) | ((with_reducible refine gate_builtin (b := .append) (xs := #[.tmp 60, .tmp 62]) rfl ?_); at_builtin; refine Kd.R_append (Kd.int .i64) (w0 := w) w.heap.size rfl (.tmp 60) (.tmp 62) 24 3 (.int .i64 0) 8 rfl Tryz.underlying24 info3 rfl (by decide) (by omega) (.slice Ao42 x8_3.length co42) x8_3 (rd (rd_L3 l0 x35_2) x42_3) [.int .i64 (rd (rd_L3 l0 x35_2) x42_3)] (fun k_ => k_ ≠ gb366) (fun _ => False) rfl rfl ?aP (fun _ hk => hk.elim) ?aF ?aO ?aB ?aS ?aL ?_; (case aP => exact rfl); (case aB => exact (by repeat (first | (with_reducible first | exact HB.out | apply zda | apply zba | apply zca | refine zea ?_ GE366.out) | exact HB.out))); (case aF => exact (fun k_ hk => Kd.freshB (g := gb366) (o := .cells #[.int .i64 a1] 3 (0, 0)) (by (with_reducible repeat (first | refine zga ?_ _ | refine zha ?_ | refine zfa ?_ _)); exact BK366.out) k_ hk)); (case aO => exact (by (with_reducible repeat (first | apply Kd.zqa | apply Kd.zpa | apply Kd.zsa)); exact HO_8.out)); (case aS => exact (zja (by repeat (first | (with_reducible first | exact HB.out | apply zda | apply zba | apply zca | refine zea ?_ GE366.out) | exact HB.out)))); (case aL => have := LMc41.out; omega); intro v388 w44 ho hb hg hat; rw [← Ny387.out] at ho; replace BK366 := zaa.mk (blk_grown (g := gb366) (o := .cells #[.int .i64 a1] 3 (0, 0)) (by (with_reducible repeat (first | refine zga ?_ _ | refine zha ?_ | refine zfa ?_ _)); exact BK366.out) hg (Kd.R_away HO_8.out (fun _ hk => hk))); replace HB := zaa.mk (hb); have HO389 := zaa.mk (ho); clear HO_8; clear ho hb hg hat))
                                 go_roundg k3
                                 case measure => have := HJ4.out; have := HK2.out; have := HK3.out; omega
                                 case rel => exact ⟨(x4_3), (y387), (wrap64 (x42_3 + 1)), (by first | rfl | (simp; done) | (simp [*]; done)), (by first | rfl | (simp; done) | (simp [*]; done)), H', ⟨by have := HJ4.out; have := HK2.out; have := HK3.out; omega⟩, ⟨by (with_reducible repeat (first | apply Kd.zqa | apply Kd.zpa | apply Kd.zsa)); exact HO389.out⟩, ⟨by (with_reducible repeat (first | refine zga ?_ _ | refine zha ?_ | refine zfa ?_ _)); exact BK366.out⟩, ⟨by repeat (first | (with_reducible first | exact HB.out | apply zda | apply zba | apply zca | refine zea ?_ GE366.out) | exact HB.out)⟩⟩
                               · rw [if_neg c41] at H
                                 exact absurd H (by simp)
                         · rw [if_neg c27] at H
                           exact absurd H (by simp)
                       · rw [if_neg c26] at H
                         exact absurd H (by simp)
                     · rw [if_neg c25] at H
                       have c25b0 : decide (x42_3 < ((rd_L3 l0 x35_2).length : Int)) = false := decide_eq_false c25
                       clear c25
                       have H' := zaa.mk H
                       clear H
                       go_wp2
                       go_roundg k3
                       case measure => have := HJ4.out; have := HK2.out; have := HK3.out; omega
                       case rel => exact ⟨(x4_3), (x8_3), (wrap64 (x35_2 + 1)), (by first | rfl | (simp; done) | (simp [*]; done)), (by first | rfl | (simp; done) | (simp [*]; done)), H', ⟨by have := HJ4.out; have := HK2.out; have := HK3.out; omega⟩, ⟨by (with_reducible repeat (first | apply Kd.zqa | apply Kd.zpa | apply Kd.zsa)); exact HO_8.out⟩, ⟨by (with_reducible repeat (first | refine zga ?_ _ | refine zha ?_ | refine zfa ?_ _)); exact BK366.out⟩, ⟨by repeat (first | (with_reducible first | exact HB.out | apply zda | apply zba | apply zca | refine zea ?_ GE366.out) | exact HB.out)⟩⟩
                 · rw [if_neg c24] at H
                   exact absurd H (by simp)
               · rw [if_neg c23] at H
                 exact absurd H (by simp)
             · rw [if_neg c22] at H
               have c22b0 : decide (x35_2 < (l0.length : Int)) = false := decide_eq_false c22
               clear c22
               simp only [Option.some.injEq, Prod.mk.injEq] at H
               obtain ⟨rfl, rfl⟩ := H
               go_wp2
               go_ret2
               exact ⟨by first | rfl | (simp [zwa, zva] <;> rfl) | (simp [*, zwa, zva] <;> rfl), by repeat (first | (with_reducible first | exact HB.out | apply zda | apply zba | apply zca | refine zea ?_ GE366.out) | exact HB.out)⟩
 · replace c4 := Bool.eq_false_iff.mpr c4
   subst c4
   have H1 : (none) = some (r1, r2) := by rw [if_neg (show ¬ (false = true) by decide)] at H; exact H
   clear H
   have H := H1
   clear H1
   exact absurd H (by simp)
end Go.Proofs.YtoacbkoenkiahaaGreat.PTopGluePlate
end
section
namespace Go.Proofs.YtoacbkoenkiahaaGreat.PTopGluePlate
open Go.RowKit Go.Proofs.YtoacbkoenkiahaaGreatW.PrintWords Go.Proofs.YtoacbkoenkiahaaGreatW.PrintLast Go.Proofs.YtoacbkoenkiahaaGreatW.PrintMore
attribute [local go_sem] znb zlb zhc zgc zeb zdb zmb zkb
set_option linter.unusedVariables false
set_option linter.unusedSimpArgs false
def testlinertop_pubPrint.f (k : Nat)  : Option (Bool) := (zec.f k 4 2 (([(([3, 3] : List Int)), (([12, 12] : List Int))] : List (List Int))) (([(⟨0, 0⟩ : S45), (⟨1, 0⟩ : S45)] : List (S45)))).bind fun bt403 => ((zsb.f k (([(([1, 2] : List Int)), (([3] : List Int)), (([1, 2] : List Int))] : List (List Int))) 2).bind fun bt419 => (if bt403.2 = 0 then (if bt419.2 = 0 then (if (bt403.1.length : Int) = 2 then (if 0 < (bt403.1.length : Int) then (if (rdOf ByteArray.empty bt403.1 0).toList = ([49, 49, 48, 50] : List UInt8) then (some (bt419.1 == 2)) else (none)) else (none)) else (none)) else (none)) else (none)))
set_option maxHeartbeats 8000000 in
set_option maxRecDepth 100000 in
theorem testlinertop_pubPrint.calls (k : Nat)  (r : Bool) (w : World) (h : testlinertop_pubPrint.f k  = some r) :
 Calls Tryz.prog 13 #[] w fun e w' => e = .returned (.bool r) ∧ Below w.heap.size w w' := by
 have hu40 := Tryz.underlying40
 have hu45 := Tryz.underlying45
 have HB := zaa.mk (Below.refl w.heap.size w)
 have H : ((zec.f k 4 2 (([(([3, 3] : List Int)), (([12, 12] : List Int))] : List (List Int))) (([(⟨0, 0⟩ : S45), (⟨1, 0⟩ : S45)] : List (S45)))).bind fun bt403 => ((zsb.f k (([(([1, 2] : List Int)), (([3] : List Int)), (([1, 2] : List Int))] : List (List Int))) 2).bind fun bt419 => (if bt403.2 = 0 then (if bt419.2 = 0 then (if (bt403.1.length : Int) = 2 then (if 0 < (bt403.1.length : Int) then (if (rdOf ByteArray.empty bt403.1 0).toList = ([49, 49, 48, 50] : List UInt8) then (some (bt419.1 == 2)) else (none)) else (none)) else (none)) else (none)) else (none)))) = some r := h
 clear h
 obtain ⟨y390, hy390⟩ : ∃ y_ : List Int, y_ = (([3, 3] : List Int)) := ⟨_, rfl⟩
 replace H : ((zec.f k 4 2 (([y390, (([12, 12] : List Int))] : List (List Int))) (([(⟨0, 0⟩ : S45), (⟨1, 0⟩ : S45)] : List (S45)))).bind fun bt403 => ((zsb.f k (([(([1, 2] : List Int)), (([3] : List Int)), (([1, 2] : List Int))] : List (List Int))) 2).bind fun bt419 => (if bt403.2 = 0 then (if bt419.2 = 0 then (if (bt403.1.length : Int) = 2 then (if 0 < (bt403.1.length : Int) then (if (rdOf ByteArray.empty bt403.1 0).toList = ([49, 49, 48, 50] : List UInt8) then (some (bt419.1 == 2)) else (none)) else (none)) else (none)) else (none)) else (none)))) = some r := by first | (rw [hy390]; with_reducible exact H) | (have H2_ := (Option.bind_some _ _).symm.trans H; rw [hy390]; with_reducible exact H2_) | (have H2_ := (Option.bind_some _ _).symm.trans H; with_reducible exact H2_) | with_reducible exact H | (rw [hy390]; exact H) | exact H
 have Ny390 := zaa.mk hy390
 clear hy390
 obtain ⟨y393, hy393⟩ : ∃ y_ : List Int, y_ = (([12, 12] : List Int)) := ⟨_, rfl⟩
 replace H : ((zec.f k 4 2 (([y390, y393] : List (List Int))) (([(⟨0, 0⟩ : S45), (⟨1, 0⟩ : S45)] : List (S45)))).bind fun bt403 => ((zsb.f k (([(([1, 2] : List Int)), (([3] : List Int)), (([1, 2] : List Int))] : List (List Int))) 2).bind fun bt419 => (if bt403.2 = 0 then (if bt419.2 = 0 then (if (bt403.1.length : Int) = 2 then (if 0 < (bt403.1.length : Int) then (if (rdOf ByteArray.empty bt403.1 0).toList = ([49, 49, 48, 50] : List UInt8) then (some (bt419.1 == 2)) else (none)) else (none)) else (none)) else (none)) else (none)))) = some r := by first | (rw [hy393]; with_reducible exact H) | (have H2_ := (Option.bind_some _ _).symm.trans H; rw [hy393]; with_reducible exact H2_) | (have H2_ := (Option.bind_some _ _).symm.trans H; with_reducible exact H2_) | with_reducible exact H | (rw [hy393]; exact H) | exact H
 have Ny393 := zaa.mk hy393
 clear hy393
 obtain ⟨y396, hy396⟩ : ∃ y_ : List (List Int), y_ = (([y390, y393] : List (List Int))) := ⟨_, rfl⟩
 replace H : ((zec.f k 4 2 y396 (([(⟨0, 0⟩ : S45), (⟨1, 0⟩ : S45)] : List (S45)))).bind fun bt403 => ((zsb.f k (([(([1, 2] : List Int)), (([3] : List Int)), (([1, 2] : List Int))] : List (List Int))) 2).bind fun bt419 => (if bt403.2 = 0 then (if bt419.2 = 0 then (if (bt403.1.length : Int) = 2 then (if 0 < (bt403.1.length : Int) then (if (rdOf ByteArray.empty bt403.1 0).toList = ([49, 49, 48, 50] : List UInt8) then (some (bt419.1 == 2)) else (none)) else (none)) else (none)) else (none)) else (none)))) = some r := by first | (rw [hy396]; with_reducible exact H) | (have H2_ := (Option.bind_some _ _).symm.trans H; rw [hy396]; with_reducible exact H2_) | (have H2_ := (Option.bind_some _ _).symm.trans H; with_reducible exact H2_) | with_reducible exact H | (rw [hy396]; exact H) | exact H
 have Ny396 := zaa.mk hy396
 clear hy396
 obtain ⟨y400, hy400⟩ : ∃ y_ : List (S45), y_ = (([(⟨0, 0⟩ : S45), (⟨1, 0⟩ : S45)] : List (S45))) := ⟨_, rfl⟩
 replace H : ((zec.f k 4 2 y396 y400).bind fun bt403 => ((zsb.f k (([(([1, 2] : List Int)), (([3] : List Int)), (([1, 2] : List Int))] : List (List Int))) 2).bind fun bt419 => (if bt403.2 = 0 then (if bt419.2 = 0 then (if (bt403.1.length : Int) = 2 then (if 0 < (bt403.1.length : Int) then (if (rdOf ByteArray.empty bt403.1 0).toList = ([49, 49, 48, 50] : List UInt8) then (some (bt419.1 == 2)) else (none)) else (none)) else (none)) else (none)) else (none)))) = some r := by first | (rw [hy400]; with_reducible exact H) | (have H2_ := (Option.bind_some _ _).symm.trans H; rw [hy400]; with_reducible exact H2_) | (have H2_ := (Option.bind_some _ _).symm.trans H; with_reducible exact H2_) | with_reducible exact H | (rw [hy400]; exact H) | exact H
 have Ny400 := zaa.mk hy400
 clear hy400
 replace H := Option.bind_eq_some_iff.mp H
 obtain ⟨⟨t403, t406⟩, A10, H⟩ := H
 replace H : ((zsb.f k (([(([1, 2] : List Int)), (([3] : List Int)), (([1, 2] : List Int))] : List (List Int))) 2).bind fun bt419 => (if t406 = 0 then (if bt419.2 = 0 then (if (t403.length : Int) = 2 then (if 0 < (t403.length : Int) then (if (rdOf ByteArray.empty t403 0).toList = ([49, 49, 48, 50] : List UInt8) then (some (bt419.1 == 2)) else (none)) else (none)) else (none)) else (none)) else (none))) = some r := H
 have A1 := zaa.mk A10
 clear A10
 obtain ⟨y407, hy407⟩ : ∃ y_ : List Int, y_ = (([1, 2] : List Int)) := ⟨_, rfl⟩
 replace H : ((zsb.f k (([y407, (([3] : List Int)), (([1, 2] : List Int))] : List (List Int))) 2).bind fun bt419 => (if t406 = 0 then (if bt419.2 = 0 then (if (t403.length : Int) = 2 then (if 0 < (t403.length : Int) then (if (rdOf ByteArray.empty t403 0).toList = ([49, 49, 48, 50] : List UInt8) then (some (bt419.1 == 2)) else (none)) else (none)) else (none)) else (none)) else (none))) = some r := by first | (rw [hy407]; with_reducible exact H) | (have H2_ := (Option.bind_some _ _).symm.trans H; rw [hy407]; with_reducible exact H2_) | (have H2_ := (Option.bind_some _ _).symm.trans H; with_reducible exact H2_) | with_reducible exact H | (rw [hy407]; exact H) | exact H
 have Ny407 := zaa.mk hy407
 clear hy407
 obtain ⟨y410, hy410⟩ : ∃ y_ : List Int, y_ = (([3] : List Int)) := ⟨_, rfl⟩
 replace H : ((zsb.f k (([y407, y410, (([1, 2] : List Int))] : List (List Int))) 2).bind fun bt419 => (if t406 = 0 then (if bt419.2 = 0 then (if (t403.length : Int) = 2 then (if 0 < (t403.length : Int) then (if (rdOf ByteArray.empty t403 0).toList = ([49, 49, 48, 50] : List UInt8) then (some (bt419.1 == 2)) else (none)) else (none)) else (none)) else (none)) else (none))) = some r := by first | (rw [hy410]; with_reducible exact H) | (have H2_ := (Option.bind_some _ _).symm.trans H; rw [hy410]; with_reducible exact H2_) | (have H2_ := (Option.bind_some _ _).symm.trans H; with_reducible exact H2_) | with_reducible exact H | (rw [hy410]; exact H) | exact H
 have Ny410 := zaa.mk hy410
 clear hy410
 obtain ⟨y413, hy413⟩ : ∃ y_ : List Int, y_ = (([1, 2] : List Int)) := ⟨_, rfl⟩
 replace H : ((zsb.f k (([y407, y410, y413] : List (List Int))) 2).bind fun bt419 => (if t406 = 0 then (if bt419.2 = 0 then (if (t403.length : Int) = 2 then (if 0 < (t403.length : Int) then (if (rdOf ByteArray.empty t403 0).toList = ([49, 49, 48, 50] : List UInt8) then (some (bt419.1 == 2)) else (none)) else (none)) else (none)) else (none)) else (none))) = some r := by first | (rw [hy413]; with_reducible exact H) | (have H2_ := (Option.bind_some _ _).symm.trans H; rw [hy413]; with_reducible exact H2_) | (have H2_ := (Option.bind_some _ _).symm.trans H; with_reducible exact H2_) | with_reducible exact H | (rw [hy413]; exact H) | exact H
 have Ny413 := zaa.mk hy413
 clear hy413
 obtain ⟨y416, hy416⟩ : ∃ y_ : List (List Int), y_ = (([y407, y410, y413] : List (List Int))) := ⟨_, rfl⟩
 replace H : ((zsb.f k y416 2).bind fun bt419 => (if t406 = 0 then (if bt419.2 = 0 then (if (t403.length : Int) = 2 then (if 0 < (t403.length : Int) then (if (rdOf ByteArray.empty t403 0).toList = ([49, 49, 48, 50] : List UInt8) then (some (bt419.1 == 2)) else (none)) else (none)) else (none)) else (none)) else (none))) = some r := by first | (rw [hy416]; with_reducible exact H) | (have H2_ := (Option.bind_some _ _).symm.trans H; rw [hy416]; with_reducible exact H2_) | (have H2_ := (Option.bind_some _ _).symm.trans H; with_reducible exact H2_) | with_reducible exact H | (rw [hy416]; exact H) | exact H
 have Ny416 := zaa.mk hy416
 clear hy416
 replace H := Option.bind_eq_some_iff.mp H
 obtain ⟨⟨t419, t420⟩, A20, H⟩ := H
 replace H : (if t406 = 0 then (if t420 = 0 then (if (t403.length : Int) = 2 then (if 0 < (t403.length : Int) then (if (rdOf ByteArray.empty t403 0).toList = ([49, 49, 48, 50] : List UInt8) then (some (t419 == 2)) else (none)) else (none)) else (none)) else (none)) else (none)) = some r := H
 have A2 := zaa.mk A20
 clear A20
 by_cases c3 : t406 = 0
 · rw [if_pos c3] at H
   have c3b0 : (t406 == 0) = true := beq_iff_eq.mpr c3
   have c3b1 : (t406 != 0) = false := bne_eq_false_iff_eq.mpr c3
   clear c3
   by_cases c4 : t420 = 0
   · rw [if_pos c4] at H
     have c4b0 : (t420 == 0) = true := beq_iff_eq.mpr c4
     have c4b1 : (t420 != 0) = false := bne_eq_false_iff_eq.mpr c4
     clear c4
     by_cases c5 : (t403.length : Int) = 2
     · rw [if_pos c5] at H
       have c5b0 : ((t403.length : Int) == 2) = true := beq_iff_eq.mpr c5
       have c5b1 : ((t403.length : Int) != 2) = false := bne_eq_false_iff_eq.mpr c5
       clear c5
       by_cases c6 : 0 < (t403.length : Int)
       · rw [if_pos c6] at H
         have c6b0 : decide (0 < (t403.length : Int)) = true := decide_eq_true c6
         have c6b1 : decide (0 < t403.length) = true := decide_eq_true (by omega)
         clear c6
         by_cases c7 : (rdOf ByteArray.empty t403 0).toList = ([49, 49, 48, 50] : List UInt8)
         · rw [if_pos c7] at H
           have c7b0 : ((rdOf ByteArray.empty t403 0).toList == ([49, 49, 48, 50] : List UInt8)) = true := beq_iff_eq.mpr c7
           have c7b1 : ((rdOf ByteArray.empty t403 0).toList != ([49, 49, 48, 50] : List UInt8)) = false := bne_eq_false_iff_eq.mpr c7
           clear c7
           obtain rfl := Option.some.inj H
           go_enter Tryz.func13, Tryz.ntmps13
           go_wp2_with (first | ((with_reducible refine zbb (N := 6) rfl ?_); (try (refine zid (by rfl) ?_; dsimp only)); refine Kd.R_lit (Kd.int .i64) _ 3 ?hg (N := 6) ?hd (xs := ([3, 3] : List Int)) (inner := [.int .i64 3, .int .i64 3]) (ok := fun _ => True) (okp := fun _ => True) ?hr ?hp (fun _ hk => hk) trivial (Below.refl _ _) (Nat.le_refl _) (by simp) ?_; (case hd => rfl); (case hg => rfl); (case hr => first | (go_simp; done) | (go_simp; rfl)); (case hp => exact (Reps.one (show Kd.M (Kd.int .i64) _ _ _ 3 [.int .i64 3] from rfl) (Reps.one (show Kd.M (Kd.int .i64) _ _ _ 3 [.int .i64 3] from rfl) (Reps.none _ _)))); intro v391 w8 ho9 hb hg_ hnew_; clear hg_ hnew_; (first | rw [← Ny390.out] at ho9 | (simp only [Int.reduceToNat] at ho9; rw [← Ny390.out] at ho9)); have HO392 := zaa.mk (Kd.znd ho9 (zja (by repeat (first | (with_reducible first | exact HB.out | apply zda | apply zba | apply zca) | exact HB.out)))); replace HB := zaa.mk (zma (by repeat (first | (with_reducible first | exact HB.out | apply zda | apply zba | apply zca) | exact HB.out)) hb); clear hb ho9) | ((with_reducible refine zbb (N := 7) rfl ?_); (try (refine zid (by rfl) ?_; dsimp only)); refine Kd.R_lit (Kd.int .i64) _ 3 ?hg (N := 7) ?hd (xs := ([12, 12] : List Int)) (inner := [.int .i64 12, .int .i64 12]) (ok := fun _ => True) (okp := fun _ => True) ?hr ?hp (fun _ hk => hk) trivial (Below.refl _ _) (Nat.le_refl _) (by simp) ?_; (case hd => rfl); (case hg => rfl); (case hr => first | (go_simp; done) | (go_simp; rfl)); (case hp => exact (Reps.one (show Kd.M (Kd.int .i64) _ _ _ 12 [.int .i64 12] from rfl) (Reps.one (show Kd.M (Kd.int .i64) _ _ _ 12 [.int .i64 12] from rfl) (Reps.none _ _)))); intro v394 w10 ho11 hb hg_ hnew_; clear hg_ hnew_; (first | rw [← Ny393.out] at ho11 | (simp only [Int.reduceToNat] at ho11; rw [← Ny393.out] at ho11)); have HO395 := zaa.mk (Kd.znd (Kd.R_new' ho11 (Kd.R_lt (by (with_reducible repeat (first | apply Kd.zqa | apply Kd.zpa | apply Kd.zsa)); exact HO392.out))) (zja (by repeat (first | (with_reducible first | exact HB.out | apply zda | apply zba | apply zca) | exact HB.out)))); replace HO392 := zaa.mk (Kd.R_elder' (by (with_reducible repeat (first | apply Kd.zqa | apply Kd.zpa | apply Kd.zsa)); exact HO392.out) (Kd.zxd ho11) hb); replace HB := zaa.mk (zma (by repeat (first | (with_reducible first | exact HB.out | apply zda | apply zba | apply zca) | exact HB.out)) hb); clear hb ho11; obtain ⟨Ao12, co12, eo12⟩ := Kd.zfd HO392.out; subst eo12; obtain ⟨Ao13, co13, eo13⟩ := Kd.zfd HO395.out; subst eo13) | ((with_reducible refine zbb (N := 8) rfl ?_); (try (refine zid (by rfl) ?_; dsimp only)); refine Kd.N_lit (Kd.slice 3 (Kd.int .i64)) _ 24 ?hg (N' := 8) ?hd (xs := ([y390, y393] : List (List Int))) (inner := [.slice Ao12 y390.length co12, .slice Ao13 y393.length co13]) (ok := (fun _ => True)) (okp := (fun _ => True)) ?hr ?hp (fun _ hk => hk) ((show ∀ k_, w10.heap.size ≤ k_ → (fun _ => True) k_ from fun k_ hk => trivial) _ (Nat.le_refl _)) (Below.refl _ _) (Nat.le_refl _) (by simp) ?_; (case hd => rfl); (case hg => rfl); (case hr => first | (go_simp; done) | (go_simp; rfl)); (case hp => exact (Reps.one (show Kd.FK (Kd.slice 3 (Kd.int .i64)) _ _ y390 [.slice Ao12 y390.length co12] from (Kd.FK_slice_mk (Kd.zgb (Kd.zsd (ok' := (fun _ => True)) (HO392.out) (fun k_ hk => trivial))).2.1 (Kd.R_F (Kd.zsd (ok' := (fun _ => True)) (HO392.out) (fun k_ hk => trivial))))) (Reps.one (show Kd.FK (Kd.slice 3 (Kd.int .i64)) _ _ y393 [.slice Ao13 y393.length co13] from (Kd.FK_slice_mk (Kd.zgb (Kd.zsd (ok' := (fun _ => True)) (HO395.out) (fun k_ hk => trivial))).2.1 (Kd.R_F (Kd.zsd (ok' := (fun _ => True)) (HO395.out) (fun k_ hk => trivial))))) (Reps.none _ _)))); intro v397 w14 ho15 hb hg_ hnew_; clear hg_ hnew_; (first | rw [← Ny396.out] at ho15 | (simp only [Int.reduceToNat] at ho15; rw [← Ny396.out] at ho15)); have HO398 := zaa.mk (Kd.N_lower ho15 (zja (by repeat (first | (with_reducible first | exact HB.out | apply zda | apply zba | apply zca) | exact HB.out)))); replace HB := zaa.mk (zma (by repeat (first | (with_reducible first | exact HB.out | apply zda | apply zba | apply zca) | exact HB.out)) hb); clear HO392; clear HO395; clear hb ho15; obtain ⟨Ao16, co16, eo16⟩ := Kd.N_slice HO398.out; subst eo16) | ((with_reducible refine zbb (N := 1) rfl ?_); (try (refine zid (by rfl) ?_; dsimp only)); refine zob ?hg (N := 1) ?hd (cs := #[.int .i64 0, .int .i64 0, .slice none 0 0]) (t := 40) ?hr ?_; (case hd => rfl); (case hg => rfl); (case hr => first | (go_simp; done) | (go_simp; rfl)); intro gb399 hg w17 hbox hb; replace HO398 := zaa.mk (Kd.N_below (Kd.N_elderB (by (with_reducible repeat (first | apply Kd.N_alloc | apply Kd.N_drewN | apply Kd.N_drew)); exact HO398.out) gb399 (Nat.le_of_eq hg.symm)) hb); have BK399 := zaa.mk (hbox); have GW399 := zaa.mk ((by rw [hg]; exact (zja (by repeat (first | (with_reducible first | exact HB.out | apply zda | apply zba | apply zca) | exact HB.out))) : w.heap.size ≤ gb399)); have GE399 := zaa.mk ((by rw [hg]; exact (zja (by repeat (first | (with_reducible first | exact HB.out | apply zda | apply zba | apply zca) | exact HB.out))) : w.heap.size ≤ gb399)); replace HB := zaa.mk (zma (by repeat (first | (with_reducible first | exact HB.out | apply zda | apply zba | apply zca) | exact HB.out)) hb); clear hb hbox hg; have hcz18_0 : w17.cell? ⟨gb399, 0, none⟩ = some (.int .i64 0) := (zla BK399.out 0).trans rfl; have hcz18_1 : w17.cell? ⟨gb399, 1, none⟩ = some (.int .i64 0) := (zla BK399.out 1).trans rfl; have hcz18_2 : w17.cell? ⟨gb399, 2, none⟩ = some (.slice none 0 0) := (zla BK399.out 2).trans rfl; have hfz18_0 := zka BK399.out 0; have hfz18_1 := zka BK399.out 1; have hfz18_2 := zka BK399.out 2) | ((with_reducible refine zbb (N := 14) rfl ?_); (try (refine zid (by rfl) ?_; dsimp only)); refine Kd.R_lit k45 _ 45 ?hg (N := 14) ?hd (xs := ([(⟨0, 0⟩ : S45), (⟨1, 0⟩ : S45)] : List (S45))) (inner := [.int .i64 0, .int .i64 0, .int .i64 1, .int .i64 0]) (ok := fun _ => True) (okp := fun _ => True) ?hr ?hp (fun _ hk => hk) trivial (Below.refl _ _) (Nat.le_refl _) (by simp) ?_; (case hd => rfl); (case hg => rfl); (case hr => first | (go_simp; done) | (go_simp; rfl)); (case hp => exact (Reps.c2 (show Kd.M k45 _ _ _ (⟨0, 0⟩ : S45) [.int .i64 0, .int .i64 0] from (k45_mkM _ _ _ (⟨0, 0⟩ : S45) )) (Reps.c2 (show Kd.M k45 _ _ _ (⟨1, 0⟩ : S45) [.int .i64 1, .int .i64 0] from (k45_mkM _ _ _ (⟨1, 0⟩ : S45) )) (Reps.none _ _)))); intro v401 w19 ho20 hb hg_ hnew_; clear hg_ hnew_; (first | rw [← Ny400.out] at ho20 | (simp only [Int.reduceToNat] at ho20; rw [← Ny400.out] at ho20)); replace HO398 := zaa.mk (Kd.N_elder' (by (with_reducible repeat (first | apply Kd.N_alloc | apply Kd.N_drewN | apply Kd.N_drew)); exact (Kd.N_mono (Kd.N_far (p := ⟨gb399, 2, none⟩) (Kd.N_far (p := ⟨gb399, 1, none⟩) (Kd.N_far (p := ⟨gb399, 0, none⟩) (Kd.N_mono HO398.out (fun k_ hk => (⟨hk, hk.2⟩ : _ ∧ k_ ≠ gb399))) (fun _ hk => hk.2) (.int .i64 4)) (fun _ hk => hk.2) (.int .i64 2)) (fun _ hk => hk.2) (.slice Ao16 y396.length co16)) (fun _ h_ => h_.1))) (Kd.zxd ho20) hb); have HO402 := zaa.mk (Kd.znd ho20 (zja (by repeat (first | (with_reducible first | exact HB.out | apply zda | apply zba | apply zca | refine zea ?_ GE399.out) | exact HB.out)))); replace BK399 := zaa.mk (zna (g := gb399) (o := .cells #[.int .i64 4, .int .i64 2, .slice Ao16 y396.length co16] 40 (0, 0)) (by (with_reducible repeat (first | refine zga ?_ _ | refine zha ?_ | refine zfa ?_ _)); refine zzc (cs := #[.int .i64 4, .int .i64 2, .slice none 0 0]) ?_ 2 _ rfl; (with_reducible repeat (first | refine zga ?_ _ | refine zha ?_ | refine zfa ?_ _)); refine zzc (cs := #[.int .i64 4, .int .i64 0, .slice none 0 0]) ?_ 1 _ rfl; (with_reducible repeat (first | refine zga ?_ _ | refine zha ?_ | refine zfa ?_ _)); refine zzc (cs := #[.int .i64 0, .int .i64 0, .slice none 0 0]) ?_ 0 _ rfl; (with_reducible repeat (first | refine zga ?_ _ | refine zha ?_ | refine zfa ?_ _)); exact BK399.out) hb); replace HB := zaa.mk (zma (by repeat (first | (with_reducible first | exact HB.out | apply zda | apply zba | apply zca | refine zea ?_ GE399.out) | exact HB.out)) hb); clear hb ho20; obtain ⟨Ao21, co21, eo21⟩ := Kd.zfd HO402.out; subst eo21) | ((with_reducible refine zxa (f := 8) rfl ?_); refine zhd (some 15) rfl rfl Tryz.func8 (by kernel_rfl) rfl #[.agg #[.int .i64 4, .int .i64 2, .slice Ao16 y396.length co16], .slice Ao21 y400.length co21] rfl (by (try simp only [List.map_toArray, List.map_cons, List.map_nil]); first | done | rfl | (simp only [List.length_drop, List.length_take]; rfl)) ?_; (with_reducible refine (zec.calls k 4 2 _ _ y396 _ _ y400 t403 t406 _ ?side1 ?side2 ?side3 ?side4 A1.out).mono ?_); (case side1 => repeat (first | exact (Kd.N_reads' HO398.out).2.2 | (with_reducible refine Kd.zrb ?_ _) | (with_reducible refine Kd.zqb ?_ _) | (with_reducible refine Kd.zmc ?_))); (case side2 => exact (Kd.N_reads' HO398.out).2.1); (case side3 => repeat (first | exact (Kd.zgb HO402.out).2.2 | (with_reducible refine Kd.zrb ?_ _) | (with_reducible refine Kd.zqb ?_ _) | (with_reducible refine Kd.zmc ?_))); (case side4 => exact (Kd.zgb HO402.out).2.1); rintro e w22 ⟨v404, rfl, ho0, hb⟩; refine ⟨_, rfl, ?_⟩; replace HO398 := zaa.mk (Kd.N_elder' (by (with_reducible repeat (first | apply Kd.N_alloc | apply Kd.N_drewN | apply Kd.N_drew)); exact HO398.out) (Kd.zxd ho0) hb); replace HO402 := zaa.mk (Kd.zcb (by (with_reducible repeat (first | apply Kd.zqa | apply Kd.zpa | apply Kd.zsa)); exact HO402.out) hb); have HO405 := zaa.mk (Kd.znd ho0 (zja (by repeat (first | (with_reducible first | exact HB.out | apply zda | apply zba | apply zca | refine zea ?_ GE399.out) | exact HB.out)))); replace BK399 := zaa.mk (zna (g := gb399) (o := .cells #[.int .i64 4, .int .i64 2, .slice Ao16 y396.length co16] 40 (0, 0)) (by (with_reducible repeat (first | refine zga ?_ _ | refine zha ?_ | refine zfa ?_ _)); exact BK399.out) hb); replace HB := zaa.mk (zma (by repeat (first | (with_reducible first | exact HB.out | apply zda | apply zba | apply zca | refine zea ?_ GE399.out) | exact HB.out)) hb); (try clear hb); (try clear hb2); (try clear hk); (try clear hi); (try clear ho0)) | ((with_reducible refine zbb (N := 19) rfl ?_); (try (refine zid (by rfl) ?_; dsimp only)); refine Kd.R_lit (Kd.int .i64) _ 3 ?hg (N := 19) ?hd (xs := ([1, 2] : List Int)) (inner := [.int .i64 1, .int .i64 2]) (ok := fun _ => True) (okp := fun _ => True) ?hr ?hp (fun _ hk => hk) trivial (Below.refl _ _) (Nat.le_refl _) (by simp) ?_; (case hd => rfl); (case hg => rfl); (case hr => first | (go_simp; done) | (go_simp; rfl)); (case hp => exact (Reps.one (show Kd.M (Kd.int .i64) _ _ _ 1 [.int .i64 1] from rfl) (Reps.one (show Kd.M (Kd.int .i64) _ _ _ 2 [.int .i64 2] from rfl) (Reps.none _ _)))); intro v408 w23 ho24 hb hg_ hnew_; clear hg_ hnew_; (first | rw [← Ny407.out] at ho24 | (simp only [Int.reduceToNat] at ho24; rw [← Ny407.out] at ho24)); replace HO398 := zaa.mk (Kd.N_elder' (by (with_reducible repeat (first | apply Kd.N_alloc | apply Kd.N_drewN | apply Kd.N_drew)); exact HO398.out) (Kd.zxd ho24) hb); replace HO402 := zaa.mk (Kd.zcb (by (with_reducible repeat (first | apply Kd.zqa | apply Kd.zpa | apply Kd.zsa)); exact HO402.out) hb); replace HO405 := zaa.mk (Kd.zcb (by (with_reducible repeat (first | apply Kd.zqa | apply Kd.zpa | apply Kd.zsa)); exact HO405.out) hb); have HO409 := zaa.mk (Kd.znd ho24 (zja (by repeat (first | (with_reducible first | exact HB.out | apply zda | apply zba | apply zca | refine zea ?_ GE399.out) | exact HB.out)))); replace BK399 := zaa.mk (zna (g := gb399) (o := .cells #[.int .i64 4, .int .i64 2, .slice Ao16 y396.length co16] 40 (0, 0)) (by (with_reducible repeat (first | refine zga ?_ _ | refine zha ?_ | refine zfa ?_ _)); exact BK399.out) hb); replace HB := zaa.mk (zma (by repeat (first | (with_reducible first | exact HB.out | apply zda | apply zba | apply zca | refine zea ?_ GE399.out) | exact HB.out)) hb); clear hb ho24) | ((with_reducible refine zbb (N := 20) rfl ?_); (try (refine zid (by rfl) ?_; dsimp only)); refine Kd.R_lit (Kd.int .i64) _ 3 ?hg (N := 20) ?hd (xs := ([3] : List Int)) (inner := [.int .i64 3]) (ok := fun _ => True) (okp := fun _ => True) ?hr ?hp (fun _ hk => hk) trivial (Below.refl _ _) (Nat.le_refl _) (by simp) ?_; (case hd => rfl); (case hg => rfl); (case hr => first | (go_simp; done) | (go_simp; rfl)); (case hp => exact (Reps.one (show Kd.M (Kd.int .i64) _ _ _ 3 [.int .i64 3] from rfl) (Reps.none _ _))); intro v411 w25 ho26 hb hg_ hnew_; clear hg_ hnew_; (first | rw [← Ny410.out] at ho26 | (simp only [Int.reduceToNat] at ho26; rw [← Ny410.out] at ho26)); replace HO398 := zaa.mk (Kd.N_elder' (by (with_reducible repeat (first | apply Kd.N_alloc | apply Kd.N_drewN | apply Kd.N_drew)); exact HO398.out) (Kd.zxd ho26) hb); replace HO402 := zaa.mk (Kd.zcb (by (with_reducible repeat (first | apply Kd.zqa | apply Kd.zpa | apply Kd.zsa)); exact HO402.out) hb); replace HO405 := zaa.mk (Kd.zcb (by (with_reducible repeat (first | apply Kd.zqa | apply Kd.zpa | apply Kd.zsa)); exact HO405.out) hb); have HO412 := zaa.mk (Kd.znd (Kd.R_new' ho26 (Kd.R_lt (by (with_reducible repeat (first | apply Kd.zqa | apply Kd.zpa | apply Kd.zsa)); exact HO409.out))) (zja (by repeat (first | (with_reducible first | exact HB.out | apply zda | apply zba | apply zca | refine zea ?_ GE399.out) | exact HB.out)))); replace HO409 := zaa.mk (Kd.R_elder' (by (with_reducible repeat (first | apply Kd.zqa | apply Kd.zpa | apply Kd.zsa)); exact HO409.out) (Kd.zxd ho26) hb); replace BK399 := zaa.mk (zna (g := gb399) (o := .cells #[.int .i64 4, .int .i64 2, .slice Ao16 y396.length co16] 40 (0, 0)) (by (with_reducible repeat (first | refine zga ?_ _ | refine zha ?_ | refine zfa ?_ _)); exact BK399.out) hb); replace HB := zaa.mk (zma (by repeat (first | (with_reducible first | exact HB.out | apply zda | apply zba | apply zca | refine zea ?_ GE399.out) | exact HB.out)) hb); clear hb ho26) | ((with_reducible refine zbb (N := 21) rfl ?_); (try (refine zid (by rfl) ?_; dsimp only)); refine Kd.R_lit (Kd.int .i64) _ 3 ?hg (N := 21) ?hd (xs := ([1, 2] : List Int)) (inner := [.int .i64 1, .int .i64 2]) (ok := fun _ => True) (okp := fun _ => True) ?hr ?hp (fun _ hk => hk) trivial (Below.refl _ _) (Nat.le_refl _) (by simp) ?_; (case hd => rfl); (case hg => rfl); (case hr => first | (go_simp; done) | (go_simp; rfl)); (case hp => exact (Reps.one (show Kd.M (Kd.int .i64) _ _ _ 1 [.int .i64 1] from rfl) (Reps.one (show Kd.M (Kd.int .i64) _ _ _ 2 [.int .i64 2] from rfl) (Reps.none _ _)))); intro v414 w27 ho28 hb hg_ hnew_; clear hg_ hnew_; (first | rw [← Ny413.out] at ho28 | (simp only [Int.reduceToNat] at ho28; rw [← Ny413.out] at ho28)); replace HO398 := zaa.mk (Kd.N_elder' (by (with_reducible repeat (first | apply Kd.N_alloc | apply Kd.N_drewN | apply Kd.N_drew)); exact HO398.out) (Kd.zxd ho28) hb); replace HO402 := zaa.mk (Kd.zcb (by (with_reducible repeat (first | apply Kd.zqa | apply Kd.zpa | apply Kd.zsa)); exact HO402.out) hb); replace HO405 := zaa.mk (Kd.zcb (by (with_reducible repeat (first | apply Kd.zqa | apply Kd.zpa | apply Kd.zsa)); exact HO405.out) hb); have HO415 := zaa.mk (Kd.znd (Kd.R_new' (Kd.R_new' ho28 (Kd.R_lt (by (with_reducible repeat (first | apply Kd.zqa | apply Kd.zpa | apply Kd.zsa)); exact HO409.out))) (Kd.R_lt (by (with_reducible repeat (first | apply Kd.zqa | apply Kd.zpa | apply Kd.zsa)); exact HO412.out))) (zja (by repeat (first | (with_reducible first | exact HB.out | apply zda | apply zba | apply zca | refine zea ?_ GE399.out) | exact HB.out)))); replace HO409 := zaa.mk (Kd.R_elder' (by (with_reducible repeat (first | apply Kd.zqa | apply Kd.zpa | apply Kd.zsa)); exact HO409.out) (Kd.zxd ho28) hb); replace HO412 := zaa.mk (Kd.R_elder' (by (with_reducible repeat (first | apply Kd.zqa | apply Kd.zpa | apply Kd.zsa)); exact HO412.out) (Kd.zxd ho28) hb); replace BK399 := zaa.mk (zna (g := gb399) (o := .cells #[.int .i64 4, .int .i64 2, .slice Ao16 y396.length co16] 40 (0, 0)) (by (with_reducible repeat (first | refine zga ?_ _ | refine zha ?_ | refine zfa ?_ _)); exact BK399.out) hb); replace HB := zaa.mk (zma (by repeat (first | (with_reducible first | exact HB.out | apply zda | apply zba | apply zca | refine zea ?_ GE399.out) | exact HB.out)) hb); clear hb ho28; obtain ⟨Ao29, co29, eo29⟩ := Kd.zfd HO409.out; subst eo29; obtain ⟨Ao30, co30, eo30⟩ := Kd.zfd HO412.out; subst eo30; obtain ⟨Ao31, co31, eo31⟩ := Kd.zfd HO415.out; subst eo31) | ((with_reducible refine zbb (N := 22) rfl ?_); (try (refine zid (by rfl) ?_; dsimp only)); refine Kd.N_lit (Kd.slice 3 (Kd.int .i64)) _ 24 ?hg (N' := 22) ?hd (xs := ([y407, y410, y413] : List (List Int))) (inner := [.slice Ao29 y407.length co29, .slice Ao30 y410.length co30, .slice Ao31 y413.length co31]) (ok := (fun k_ => some k_ ≠ (.slice Ao16 y396.length co16 : Value).ownBlock ∧ some k_ ≠ (.slice Ao21 y400.length co21 : Value).ownBlock ∧ some k_ ≠ (v404 : Value).ownBlock ∧ k_ ≠ gb399)) (okp := (fun k_ => some k_ ≠ (.slice Ao16 y396.length co16 : Value).ownBlock ∧ some k_ ≠ (.slice Ao21 y400.length co21 : Value).ownBlock ∧ some k_ ≠ (v404 : Value).ownBlock ∧ k_ ≠ gb399)) ?hr ?hp (fun _ hk => hk) ((show ∀ k_, w27.heap.size ≤ k_ → (fun k_ => some k_ ≠ (.slice Ao16 y396.length co16 : Value).ownBlock ∧ some k_ ≠ (.slice Ao21 y400.length co21 : Value).ownBlock ∧ some k_ ≠ (v404 : Value).ownBlock ∧ k_ ≠ gb399) k_ from fun k_ hk => ⟨Kd.fresh' (Kd.N_lt (by (with_reducible repeat (first | apply Kd.N_alloc | apply Kd.N_drewN | apply Kd.N_drew)); exact HO398.out)) k_ hk, Kd.fresh' (Kd.R_lt (by (with_reducible repeat (first | apply Kd.zqa | apply Kd.zpa | apply Kd.zsa)); exact HO402.out)) k_ hk, Kd.fresh' (Kd.R_lt (by (with_reducible repeat (first | apply Kd.zqa | apply Kd.zpa | apply Kd.zsa)); exact HO405.out)) k_ hk, Kd.freshB (g := gb399) (o := .cells #[.int .i64 4, .int .i64 2, .slice Ao16 y396.length co16] 40 (0, 0)) (by (with_reducible repeat (first | refine zga ?_ _ | refine zha ?_ | refine zfa ?_ _)); exact BK399.out) k_ hk⟩) _ (Nat.le_refl _)) (Below.refl _ _) (Nat.le_refl _) (by simp) ?_; (case hd => rfl); (case hg => rfl); (case hr => first | (go_simp; done) | (go_simp; rfl)); (case hp => exact (Reps.one (show Kd.FK (Kd.slice 3 (Kd.int .i64)) _ _ y407 [.slice Ao29 y407.length co29] from (Kd.FK_slice_mk (Kd.zgb (Kd.zsd (ok' := (fun k_ => some k_ ≠ (.slice Ao16 y396.length co16 : Value).ownBlock ∧ some k_ ≠ (.slice Ao21 y400.length co21 : Value).ownBlock ∧ some k_ ≠ (v404 : Value).ownBlock ∧ k_ ≠ gb399)) (Kd.zpc (Kd.zfc (Kd.zfc (Kd.zfc (HO409.out) (Kd.N_typed HO398.out) (by decide)) (Kd.zkd HO402.out) (by decide)) (Kd.zkd HO405.out) (by decide)) BK399.out (by decide)) (fun k_ hk => ⟨hk.1.1.1.2, ⟨hk.1.1.2, ⟨hk.1.2, hk.2⟩⟩⟩))).2.1 (Kd.R_F (Kd.zsd (ok' := (fun k_ => some k_ ≠ (.slice Ao16 y396.length co16 : Value).ownBlock ∧ some k_ ≠ (.slice Ao21 y400.length co21 : Value).ownBlock ∧ some k_ ≠ (v404 : Value).ownBlock ∧ k_ ≠ gb399)) (Kd.zpc (Kd.zfc (Kd.zfc (Kd.zfc (HO409.out) (Kd.N_typed HO398.out) (by decide)) (Kd.zkd HO402.out) (by decide)) (Kd.zkd HO405.out) (by decide)) BK399.out (by decide)) (fun k_ hk => ⟨hk.1.1.1.2, ⟨hk.1.1.2, ⟨hk.1.2, hk.2⟩⟩⟩))))) (Reps.one (show Kd.FK (Kd.slice 3 (Kd.int .i64)) _ _ y410 [.slice Ao30 y410.length co30] from (Kd.FK_slice_mk (Kd.zgb (Kd.zsd (ok' := (fun k_ => some k_ ≠ (.slice Ao16 y396.length co16 : Value).ownBlock ∧ some k_ ≠ (.slice Ao21 y400.length co21 : Value).ownBlock ∧ some k_ ≠ (v404 : Value).ownBlock ∧ k_ ≠ gb399)) (Kd.zpc (Kd.zfc (Kd.zfc (Kd.zfc (HO412.out) (Kd.N_typed HO398.out) (by decide)) (Kd.zkd HO402.out) (by decide)) (Kd.zkd HO405.out) (by decide)) BK399.out (by decide)) (fun k_ hk => ⟨hk.1.1.1.2, ⟨hk.1.1.2, ⟨hk.1.2, hk.2⟩⟩⟩))).2.1 (Kd.R_F (Kd.zsd (ok' := (fun k_ => some k_ ≠ (.slice Ao16 y396.length co16 : Value).ownBlock ∧ some k_ ≠ (.slice Ao21 y400.length co21 : Value).ownBlock ∧ some k_ ≠ (v404 : Value).ownBlock ∧ k_ ≠ gb399)) (Kd.zpc (Kd.zfc (Kd.zfc (Kd.zfc (HO412.out) (Kd.N_typed HO398.out) (by decide)) (Kd.zkd HO402.out) (by decide)) (Kd.zkd HO405.out) (by decide)) BK399.out (by decide)) (fun k_ hk => ⟨hk.1.1.1.2, ⟨hk.1.1.2, ⟨hk.1.2, hk.2⟩⟩⟩))))) (Reps.one (show Kd.FK (Kd.slice 3 (Kd.int .i64)) _ _ y413 [.slice Ao31 y413.length co31] from (Kd.FK_slice_mk (Kd.zgb (Kd.zsd (ok' := (fun k_ => some k_ ≠ (.slice Ao16 y396.length co16 : Value).ownBlock ∧ some k_ ≠ (.slice Ao21 y400.length co21 : Value).ownBlock ∧ some k_ ≠ (v404 : Value).ownBlock ∧ k_ ≠ gb399)) (Kd.zpc (Kd.zfc (Kd.zfc (Kd.zfc (HO415.out) (Kd.N_typed HO398.out) (by decide)) (Kd.zkd HO402.out) (by decide)) (Kd.zkd HO405.out) (by decide)) BK399.out (by decide)) (fun k_ hk => ⟨hk.1.1.1.2, ⟨hk.1.1.2, ⟨hk.1.2, hk.2⟩⟩⟩))).2.1 (Kd.R_F (Kd.zsd (ok' := (fun k_ => some k_ ≠ (.slice Ao16 y396.length co16 : Value).ownBlock ∧ some k_ ≠ (.slice Ao21 y400.length co21 : Value).ownBlock ∧ some k_ ≠ (v404 : Value).ownBlock ∧ k_ ≠ gb399)) (Kd.zpc (Kd.zfc (Kd.zfc (Kd.zfc (HO415.out) (Kd.N_typed HO398.out) (by decide)) (Kd.zkd HO402.out) (by decide)) (Kd.zkd HO405.out) (by decide)) BK399.out (by decide)) (fun k_ hk => ⟨hk.1.1.1.2, ⟨hk.1.1.2, ⟨hk.1.2, hk.2⟩⟩⟩))))) (Reps.none _ _))))); intro v417 w32 ho33 hb hg_ hnew_; clear hg_ hnew_; (first | rw [← Ny416.out] at ho33 | (simp only [Int.reduceToNat] at ho33; rw [← Ny416.out] at ho33)); replace HO398 := zaa.mk (Kd.N_elder' (by (with_reducible repeat (first | apply Kd.N_alloc | apply Kd.N_drewN | apply Kd.N_drew)); exact HO398.out) (Kd.N_base ho33) hb); replace HO402 := zaa.mk (Kd.zcb (by (with_reducible repeat (first | apply Kd.zqa | apply Kd.zpa | apply Kd.zsa)); exact HO402.out) hb); replace HO405 := zaa.mk (Kd.zcb (by (with_reducible repeat (first | apply Kd.zqa | apply Kd.zpa | apply Kd.zsa)); exact HO405.out) hb); have HO418 := zaa.mk (Kd.N_lower ho33 (zja (by repeat (first | (with_reducible first | exact HB.out | apply zda | apply zba | apply zca | refine zea ?_ GE399.out) | exact HB.out)))); replace BK399 := zaa.mk (zna (g := gb399) (o := .cells #[.int .i64 4, .int .i64 2, .slice Ao16 y396.length co16] 40 (0, 0)) (by (with_reducible repeat (first | refine zga ?_ _ | refine zha ?_ | refine zfa ?_ _)); exact BK399.out) hb); replace HB := zaa.mk (zma (by repeat (first | (with_reducible first | exact HB.out | apply zda | apply zba | apply zca | refine zea ?_ GE399.out) | exact HB.out)) hb); clear HO409; clear HO412; clear HO415; clear hb ho33; obtain ⟨Ao34, co34, eo34⟩ := Kd.N_slice HO418.out; subst eo34) | ((with_reducible refine zxa (f := 31) rfl ?_); refine zhd (some 23) rfl rfl Tryz.func31 (by kernel_rfl) rfl #[.slice Ao34 y416.length co34, .int .i64 2] rfl (by (try simp only [List.map_toArray, List.map_cons, List.map_nil]); first | done | rfl | (simp only [List.length_drop, List.length_take]; rfl)) ?_; (with_reducible refine (zsb.calls k _ _ y416 2 t419 t420 _ ?side1 ?side2 A2.out).mono ?_); (case side1 => repeat (first | exact (Kd.N_reads' HO418.out).2.2 | (with_reducible refine Kd.zrb ?_ _) | (with_reducible refine Kd.zqb ?_ _) | (with_reducible refine Kd.zmc ?_))); (case side2 => exact (Kd.N_reads' HO418.out).2.1); rintro e w35 ⟨rfl, hb⟩; refine ⟨_, rfl, ?_⟩; replace HO398 := zaa.mk (Kd.N_below (by (with_reducible repeat (first | apply Kd.N_alloc | apply Kd.N_drewN | apply Kd.N_drew)); exact HO398.out) hb); replace HO402 := zaa.mk (Kd.zcb (by (with_reducible repeat (first | apply Kd.zqa | apply Kd.zpa | apply Kd.zsa)); exact HO402.out) hb); replace HO405 := zaa.mk (Kd.zcb (by (with_reducible repeat (first | apply Kd.zqa | apply Kd.zpa | apply Kd.zsa)); exact HO405.out) hb); replace HO418 := zaa.mk (Kd.N_below (by (with_reducible repeat (first | apply Kd.N_alloc | apply Kd.N_drewN | apply Kd.N_drew)); exact HO418.out) hb); replace BK399 := zaa.mk (zna (g := gb399) (o := .cells #[.int .i64 4, .int .i64 2, .slice Ao16 y396.length co16] 40 (0, 0)) (by (with_reducible repeat (first | refine zga ?_ _ | refine zha ?_ | refine zfa ?_ _)); exact BK399.out) hb); replace HB := zaa.mk (zma (by repeat (first | (with_reducible first | exact HB.out | apply zda | apply zba | apply zca | refine zea ?_ GE399.out) | exact HB.out)) hb); (try clear hb); (try clear hb2); (try clear hk); (try clear hi); obtain ⟨Ao36, co36, eo36⟩ := Kd.zfd HO405.out; subst eo36; have p421 : 0 ≤ (0 : Int) := (by omega); have q421 : 0 < (t403.length : Int) := of_decide_eq_true (by first | (with_reducible assumption) | assumption); obtain ⟨ad421, e421, hx421_0⟩ := Kd.at_string (Kd.zgb HO405.out).2.2 0 p421 q421; cases e421; have qi421 : (0 < t403.length) = True := eq_true (by omega); (try rw [show ((0 : Int)).toNat = 0 from rfl] at hx421_0); (try rw [Addr.add_zero'] at hx421_0); replace p421 := eq_true p421; replace q421 := eq_true q421))
           go_ret
           exact ⟨by first | rfl | (simp [zwa, zva] <;> rfl) | (simp [*, zwa, zva] <;> rfl), by repeat (first | (with_reducible first | exact HB.out | apply zda | apply zba | apply zca | refine zea ?_ GE399.out) | exact HB.out)⟩
         · rw [if_neg c7] at H
           exact absurd H (by simp)
       · rw [if_neg c6] at H
         exact absurd H (by simp)
     · rw [if_neg c5] at H
       exact absurd H (by simp)
   · rw [if_neg c4] at H
     exact absurd H (by simp)
 · rw [if_neg c3] at H
   exact absurd H (by simp)
end Go.Proofs.YtoacbkoenkiahaaGreat.PTopGluePlate
end
