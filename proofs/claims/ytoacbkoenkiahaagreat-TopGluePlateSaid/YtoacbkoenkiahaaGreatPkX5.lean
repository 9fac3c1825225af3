/- A part of the proof of the law TopGluePlate: whatever the input, the call returns true and its arguments read as they read before; no condition. Written by a program of this session out of its own texts and the printed ones. -/
import Derived.Test.YtoacbkoenkiahaaGreatPkW1
import Derived.Test.YtoacbkoenkiahaaGreatPkX1
import Derived.Test.YtoacbkoenkiahaaGreatPkX2
import Derived.Test.YtoacbkoenkiahaaGreatPkX3
import Derived.Test.YtoacbkoenkiahaaGreatPkX4
section
namespace Go.Proofs.YtoacbkoenkiahaaGreat.PTopGluePlate
open Go.RowKit Go.Proofs.YtoacbkoenkiahaaGreatW.PrintWords Go.Proofs.YtoacbkoenkiahaaGreatW.PrintLast Go.Proofs.YtoacbkoenkiahaaGreatW.PrintMore
attribute [local go_sem] znb zlb zhc zgc zeb zdb zmb zkb
set_option linter.unusedVariables false
set_option linter.unusedSimpArgs false
def zfe.f (k : Nat)  : Option (Bool) := (some (([14, 18] : List Int) : List Int)).bind fun y422 => ((zhe.f k 6 y422 (([(⟨0, 2, 0⟩ : S32)] : List (S32))) 5).bind fun bt429 => ((glue_Explain.f k 6 y422 (([0] : List Int)) ([] : List (S59))).bind fun bt436 => (if bt429.2 = 0 then (if bt436.2.2 = 0 then ((zab.f k bt429.1 (([30, 18] : List Int))).bind fun t444 => (if t444 = true then (some (bt436.1 == 25)) else (none))) else (none)) else (none))))
set_option maxHeartbeats 8000000 in
set_option maxRecDepth 100000 in
theorem zfe.calls (k : Nat)  (r : Bool) (w : World) (h : zfe.f k  = some r) :
 Calls Tryz.prog 14 #[] w fun e w' => e = .returned (.bool r) ∧ Below w.heap.size w w' := by
 have hu29 := Tryz.underlying29
 have hu32 := Tryz.underlying32
 have HB := zaa.mk (Below.refl w.heap.size w)
 have H : ((some (([14, 18] : List Int) : List Int)).bind fun y422 => ((zhe.f k 6 y422 (([(⟨0, 2, 0⟩ : S32)] : List (S32))) 5).bind fun bt429 => ((glue_Explain.f k 6 y422 (([0] : List Int)) ([] : List (S59))).bind fun bt436 => (if bt429.2 = 0 then (if bt436.2.2 = 0 then ((zab.f k bt429.1 (([30, 18] : List Int))).bind fun t444 => (if t444 = true then (some (bt436.1 == 25)) else (none))) else (none)) else (none))))) = some r := h
 clear h
 obtain ⟨y422, hy422⟩ : ∃ y_ : List Int, y_ = (([14, 18] : List Int)) := ⟨_, rfl⟩
 replace H : ((zhe.f k 6 y422 (([(⟨0, 2, 0⟩ : S32)] : List (S32))) 5).bind fun bt429 => ((glue_Explain.f k 6 y422 (([0] : List Int)) ([] : List (S59))).bind fun bt436 => (if bt429.2 = 0 then (if bt436.2.2 = 0 then ((zab.f k bt429.1 (([30, 18] : List Int))).bind fun t444 => (if t444 = true then (some (bt436.1 == 25)) else (none))) else (none)) else (none)))) = some r := by first | (rw [hy422]; with_reducible exact H) | (have H2_ := (Option.bind_some _ _).symm.trans H; rw [hy422]; with_reducible exact H2_) | (have H2_ := (Option.bind_some _ _).symm.trans H; with_reducible exact H2_) | with_reducible exact H | (rw [hy422]; exact H) | exact H
 have Ny422 := zaa.mk hy422
 clear hy422
 obtain ⟨y426, hy426⟩ : ∃ y_ : List (S32), y_ = (([(⟨0, 2, 0⟩ : S32)] : List (S32))) := ⟨_, rfl⟩
 replace H : ((zhe.f k 6 y422 y426 5).bind fun bt429 => ((glue_Explain.f k 6 y422 (([0] : List Int)) ([] : List (S59))).bind fun bt436 => (if bt429.2 = 0 then (if bt436.2.2 = 0 then ((zab.f k bt429.1 (([30, 18] : List Int))).bind fun t444 => (if t444 = true then (some (bt436.1 == 25)) else (none))) else (none)) else (none)))) = some r := by first | (rw [hy426]; with_reducible exact H) | (have H2_ := (Option.bind_some _ _).symm.trans H; rw [hy426]; with_reducible exact H2_) | (have H2_ := (Option.bind_some _ _).symm.trans H; with_reducible exact H2_) | with_reducible exact H | (rw [hy426]; exact H) | exact H
 have Ny426 := zaa.mk hy426
 clear hy426
 replace H := Option.bind_eq_some_iff.mp H
 obtain ⟨⟨t429, t432⟩, A10, H⟩ := H
 replace H : ((glue_Explain.f k 6 y422 (([0] : List Int)) ([] : List (S59))).bind fun bt436 => (if t432 = 0 then (if bt436.2.2 = 0 then ((zab.f k t429 (([30, 18] : List Int))).bind fun t444 => (if t444 = true then (some (bt436.1 == 25)) else (none))) else (none)) else (none))) = some r := H
 have A1 := zaa.mk A10
 clear A10
 obtain ⟨y433, hy433⟩ : ∃ y_ : List Int, y_ = (([0] : List Int)) := ⟨_, rfl⟩
 replace H : ((glue_Explain.f k 6 y422 y433 ([] : List (S59))).bind fun bt436 => (if t432 = 0 then (if bt436.2.2 = 0 then ((zab.f k t429 (([30, 18] : List Int))).bind fun t444 => (if t444 = true then (some (bt436.1 == 25)) else (none))) else (none)) else (none))) = some r := by first | (rw [hy433]; with_reducible exact H) | (have H2_ := (Option.bind_some _ _).symm.trans H; rw [hy433]; with_reducible exact H2_) | (have H2_ := (Option.bind_some _ _).symm.trans H; with_reducible exact H2_) | with_reducible exact H | (rw [hy433]; exact H) | exact H
 have Ny433 := zaa.mk hy433
 clear hy433
 replace H := Option.bind_eq_some_iff.mp H
 obtain ⟨⟨t436, t437, t440⟩, A20, H⟩ := H
 replace H : (if t432 = 0 then (if t440 = 0 then ((zab.f k t429 (([30, 18] : List Int))).bind fun t444 => (if t444 = true then (some (t436 == 25)) else (none))) else (none)) else (none)) = some r := H
 have A2 := zaa.mk A20
 clear A20
 by_cases c3 : t432 = 0
 · rw [if_pos c3] at H
   have c3b0 : (t432 == 0) = true := beq_iff_eq.mpr c3
   have c3b1 : (t432 != 0) = false := bne_eq_false_iff_eq.mpr c3
   clear c3
   by_cases c4 : t440 = 0
   · rw [if_pos c4] at H
     have c4b0 : (t440 == 0) = true := beq_iff_eq.mpr c4
     have c4b1 : (t440 != 0) = false := bne_eq_false_iff_eq.mpr c4
     clear c4
     obtain ⟨y441, hy441⟩ : ∃ y_ : List Int, y_ = (([30, 18] : List Int)) := ⟨_, rfl⟩
     replace H : ((zab.f k t429 y441).bind fun t444 => (if t444 = true then (some (t436 == 25)) else (none))) = some r := by first | (rw [hy441]; with_reducible exact H) | (have H2_ := (Option.bind_some _ _).symm.trans H; rw [hy441]; with_reducible exact H2_) | (have H2_ := (Option.bind_some _ _).symm.trans H; with_reducible exact H2_) | with_reducible exact H | (rw [hy441]; exact H) | exact H
     have Ny441 := zaa.mk hy441
     clear hy441
     replace H := Option.bind_eq_some_iff.mp H
     obtain ⟨t444, A50, H⟩ := H
     replace H : (if t444 = true then (some (t436 == 25)) else (none)) = some r := H
     have A5 := zaa.mk A50
     clear A50
     by_cases c6 : t444 = true
     · subst c6
       have H1 : (some (t436 == 25)) = some r := by rw [if_pos rfl] at H; exact H
       clear H
       have H := H1
       clear H1
       obtain rfl := Option.some.inj H
       go_enter Tryz.func14, Tryz.ntmps14
       go_wp2_with (first | ((with_reducible refine zbb (N := 7) rfl ?_); (try (refine zid (by rfl) ?_; dsimp only)); refine Kd.R_lit (Kd.int .i64) _ 3 ?hg (N := 7) ?hd (xs := ([14, 18] : List Int)) (inner := [.int .i64 14, .int .i64 18]) (ok := fun _ => True) (okp := fun _ => True) ?hr ?hp (fun _ hk => hk) trivial (Below.refl _ _) (Nat.le_refl _) (by simp) ?_; (case hd => rfl); (case hg => rfl); (case hr => first | (go_simp; done) | (go_simp; rfl)); (case hp => exact (Reps.one (show Kd.M (Kd.int .i64) _ _ _ 14 [.int .i64 14] from rfl) (Reps.one (show Kd.M (Kd.int .i64) _ _ _ 18 [.int .i64 18] from rfl) (Reps.none _ _)))); intro v423 w7 ho8 hb hg_ hnew_; clear hg_ hnew_; (first | rw [← Ny422.out] at ho8 | (simp only [Int.reduceToNat] at ho8; rw [← Ny422.out] at ho8)); have HO424 := zaa.mk (Kd.znd ho8 (zja (by repeat (first | (with_reducible first | exact HB.out | apply zda | apply zba | apply zca) | exact HB.out)))); replace HB := zaa.mk (zma (by repeat (first | (with_reducible first | exact HB.out | apply zda | apply zba | apply zca) | exact HB.out)) hb); clear hb ho8; obtain ⟨Ao9, co9, eo9⟩ := Kd.zfd HO424.out; subst eo9) | ((with_reducible refine zbb (N := 1) rfl ?_); (try (refine zid (by rfl) ?_; dsimp only)); refine zob ?hg (N := 1) ?hd (cs := #[.int .i64 0, .slice none 0 0]) (t := 29) ?hr ?_; (case hd => rfl); (case hg => rfl); (case hr => first | (go_simp; done) | (go_simp; rfl)); intro gb425 hg w10 hbox hb; replace HO424 := zaa.mk (Kd.zcb (by (with_reducible repeat (first | apply Kd.zqa | apply Kd.zpa | apply Kd.zsa)); exact HO424.out) hb); have BK425 := zaa.mk (hbox); have GW425 := zaa.mk ((by rw [hg]; exact (zja (by repeat (first | (with_reducible first | exact HB.out | apply zda | apply zba | apply zca) | exact HB.out))) : w.heap.size ≤ gb425)); have GE425 := zaa.mk ((by rw [hg]; exact (zja (by repeat (first | (with_reducible first | exact HB.out | apply zda | apply zba | apply zca) | exact HB.out))) : w.heap.size ≤ gb425)); replace HB := zaa.mk (zma (by repeat (first | (with_reducible first | exact HB.out | apply zda | apply zba | apply zca) | exact HB.out)) hb); clear hb hbox hg; have hcz11_0 : w10.cell? ⟨gb425, 0, none⟩ = some (.int .i64 0) := (zla BK425.out 0).trans rfl; have hcz11_1 : w10.cell? ⟨gb425, 1, none⟩ = some (.slice none 0 0) := (zla BK425.out 1).trans rfl; have hfz11_0 := zka BK425.out 0; have hfz11_1 := zka BK425.out 1) | ((with_reducible refine zbb (N := 12) rfl ?_); (try (refine zid (by rfl) ?_; dsimp only)); refine Kd.R_lit k32 _ 32 ?hg (N := 12) ?hd (xs := ([(⟨0, 2, 0⟩ : S32)] : List (S32))) (inner := [.int .i64 0, .int .i64 2, .int .i64 0]) (ok := fun _ => True) (okp := fun _ => True) ?hr ?hp (fun _ hk => hk) trivial (Below.refl _ _) (Nat.le_refl _) (by simp) ?_; (case hd => rfl); (case hg => rfl); (case hr => first | (go_simp; done) | (go_simp; rfl)); (case hp => exact (Reps.c3 (show Kd.M k32 _ _ _ (⟨0, 2, 0⟩ : S32) [.int .i64 0, .int .i64 2, .int .i64 0] from (k32_mkM _ _ _ (⟨0, 2, 0⟩ : S32) )) (Reps.none _ _))); intro v427 w12 ho13 hb hg_ hnew_; clear hg_ hnew_; (first | rw [← Ny426.out] at ho13 | (simp only [Int.reduceToNat] at ho13; rw [← Ny426.out] at ho13)); replace HO424 := zaa.mk (Kd.zcb (by (with_reducible repeat (first | apply Kd.zqa | apply Kd.zpa | apply Kd.zsa)); exact (Kd.zsd (Kd.R_far (p := ⟨gb425, 1, none⟩) (Kd.R_far (p := ⟨gb425, 0, none⟩) (Kd.zpc HO424.out BK425.out (by decide)) (fun _ hk => hk.2) (.int .i64 6)) (fun _ hk => hk.2) (.slice Ao9 y422.length co9)) (fun _ h_ => h_.1))) hb); have HO428 := zaa.mk (Kd.znd ho13 (zja (by repeat (first | (with_reducible first | exact HB.out | apply zda | apply zba | apply zca | refine zea ?_ GE425.out) | exact HB.out)))); replace BK425 := zaa.mk (zna (g := gb425) (o := .cells #[.int .i64 6, .slice Ao9 y422.length co9] 29 (0, 0)) (by (with_reducible repeat (first | refine zga ?_ _ | refine zha ?_ | refine zfa ?_ _)); refine zzc (cs := #[.int .i64 6, .slice none 0 0]) ?_ 1 _ rfl; (with_reducible repeat (first | refine zga ?_ _ | refine zha ?_ | refine zfa ?_ _)); refine zzc (cs := #[.int .i64 0, .slice none 0 0]) ?_ 0 _ rfl; (with_reducible repeat (first | refine zga ?_ _ | refine zha ?_ | refine zfa ?_ _)); exact BK425.out) hb); replace HB := zaa.mk (zma (by repeat (first | (with_reducible first | exact HB.out | apply zda | apply zba | apply zca | refine zea ?_ GE425.out) | exact HB.out)) hb); clear hb ho13; obtain ⟨Ao14, co14, eo14⟩ := Kd.zfd HO428.out; subst eo14) | ((with_reducible refine zxa (f := 6) rfl ?_); refine zhd (some 13) rfl rfl Tryz.func6 (by kernel_rfl) rfl #[.agg #[.int .i64 6, .slice Ao9 y422.length co9], .slice Ao14 y426.length co14, .int .i64 5] rfl (by (try simp only [List.map_toArray, List.map_cons, List.map_nil]); first | done | rfl | (simp only [List.length_drop, List.length_take]; rfl)) ?_; (with_reducible refine (zhe.calls k 6 (fun k_ => some k_ = (.slice Ao9 y422.length co9 : Value).ownBlock) _ _ y422 (fun k_ => some k_ = (.slice Ao14 y426.length co14 : Value).ownBlock) _ _ y426 5 t429 t432 _ ?side1 ?side2 A1.out).mono ?_); (case side1 => exact Kd.R_V (Kd.R_tight rfl (Kd.zpc (Kd.zfc (HO424.out) (Kd.zkd HO428.out) (by decide)) BK425.out (by decide)))); (case side2 => exact Kd.R_V (Kd.R_tight rfl (Kd.zpc (Kd.zfc (HO428.out) (Kd.zkd HO424.out) (by decide)) BK425.out (by decide)))); rintro e w15 ⟨v430, rfl, ho0, hb⟩; refine ⟨_, rfl, ?_⟩; replace HO428 := zaa.mk (Kd.zcb (by (with_reducible repeat (first | apply Kd.zqa | apply Kd.zpa | apply Kd.zsa)); exact HO428.out) hb); have HO431 := zaa.mk (Kd.znd (Kd.R_new' (Kd.zsd (ok' := fun k_ => True) ho0 (fun _ hk_ => trivial)) (Kd.R_lt (by (with_reducible repeat (first | apply Kd.zqa | apply Kd.zpa | apply Kd.zsa)); exact HO424.out))) (zja (by repeat (first | (with_reducible first | exact HB.out | apply zda | apply zba | apply zca | refine zea ?_ GE425.out) | exact HB.out)))); replace HO424 := zaa.mk (Kd.R_elder' (by (with_reducible repeat (first | apply Kd.zqa | apply Kd.zpa | apply Kd.zsa)); exact HO424.out) (Kd.zxd ho0) hb); replace BK425 := zaa.mk (zna (g := gb425) (o := .cells #[.int .i64 6, .slice Ao9 y422.length co9] 29 (0, 0)) (by (with_reducible repeat (first | refine zga ?_ _ | refine zha ?_ | refine zfa ?_ _)); exact BK425.out) hb); replace HB := zaa.mk (zma (by repeat (first | (with_reducible first | exact HB.out | apply zda | apply zba | apply zca | refine zea ?_ GE425.out) | exact HB.out)) hb); (try clear hb); (try clear hb2); (try clear hk); (try clear hi); (try clear ho0); have hcz16_0 : w15.cell? ⟨gb425, 0, none⟩ = some (.int .i64 6) := (zla BK425.out 0).trans rfl; have hcz16_1 : w15.cell? ⟨gb425, 1, none⟩ = some (.slice Ao9 y422.length co9) := (zla BK425.out 1).trans rfl; have hfz16_0 := zka BK425.out 0; have hfz16_1 := zka BK425.out 1) | ((with_reducible refine zbb (N := 18) rfl ?_); (try (refine zid (by rfl) ?_; dsimp only)); refine Kd.R_lit (Kd.int .i64) _ 3 ?hg (N := 18) ?hd (xs := ([0] : List Int)) (inner := [.int .i64 0]) (ok := fun _ => True) (okp := fun _ => True) ?hr ?hp (fun _ hk => hk) trivial (Below.refl _ _) (Nat.le_refl _) (by simp) ?_; (case hd => rfl); (case hg => rfl); (case hr => first | (go_simp; done) | (go_simp; rfl)); (case hp => exact (Reps.one (show Kd.M (Kd.int .i64) _ _ _ 0 [.int .i64 0] from rfl) (Reps.none _ _))); intro v434 w17 ho18 hb hg_ hnew_; clear hg_ hnew_; (first | rw [← Ny433.out] at ho18 | (simp only [Int.reduceToNat] at ho18; rw [← Ny433.out] at ho18)); replace HO428 := zaa.mk (Kd.zcb (by (with_reducible repeat (first | apply Kd.zqa | apply Kd.zpa | apply Kd.zsa)); exact HO428.out) hb); have HO435 := zaa.mk (Kd.znd (Kd.R_new' (Kd.R_new' ho18 (Kd.R_lt (by (with_reducible repeat (first | apply Kd.zqa | apply Kd.zpa | apply Kd.zsa)); exact HO424.out))) (Kd.R_lt (by (with_reducible repeat (first | apply Kd.zqa | apply Kd.zpa | apply Kd.zsa)); exact HO431.out))) (zja (by repeat (first | (with_reducible first | exact HB.out | apply zda | apply zba | apply zca | refine zea ?_ GE425.out) | exact HB.out)))); replace HO424 := zaa.mk (Kd.R_elder' (by (with_reducible repeat (first | apply Kd.zqa | apply Kd.zpa | apply Kd.zsa)); exact HO424.out) (Kd.zxd ho18) hb); replace HO431 := zaa.mk (Kd.R_elder' (by (with_reducible repeat (first | apply Kd.zqa | apply Kd.zpa | apply Kd.zsa)); exact HO431.out) (Kd.zxd ho18) hb); replace BK425 := zaa.mk (zna (g := gb425) (o := .cells #[.int .i64 6, .slice Ao9 y422.length co9] 29 (0, 0)) (by (with_reducible repeat (first | refine zga ?_ _ | refine zha ?_ | refine zfa ?_ _)); exact BK425.out) hb); replace HB := zaa.mk (zma (by repeat (first | (with_reducible first | exact HB.out | apply zda | apply zba | apply zca | refine zea ?_ GE425.out) | exact HB.out)) hb); clear hb ho18; obtain ⟨Ao19, co19, eo19⟩ := Kd.zfd HO435.out; subst eo19) | ((with_reducible refine zxa (f := 12) rfl ?_); refine zhd (some 19) rfl rfl Tryz.func12 (by kernel_rfl) rfl #[.agg #[.int .i64 6, .slice Ao9 y422.length co9], .slice Ao19 y433.length co19, .slice none 0 0] rfl (by (try simp only [List.map_toArray, List.map_cons, List.map_nil]); first | done | rfl | (simp only [List.length_drop, List.length_take]; rfl)) ?_; (refine (glue_Explain.calls k 6 (fun k_ => some k_ = (.slice Ao9 y422.length co9 : Value).ownBlock) _ _ y422 _ _ y433 _ _ ([] : List (S59)) t436 t437 t440 _ ?side1 ?side2 ?side3 ?side4 ?side5 A2.out).mono ?_); (case side1 => exact Kd.R_V (Kd.R_tight rfl (Kd.zpc (Kd.zfc (HO424.out) (Kd.zkd HO428.out) (by decide)) BK425.out (by decide)))); (case side2 => repeat (first | exact (Kd.zgb HO435.out).2.2 | (with_reducible refine Kd.zrb ?_ _) | (with_reducible refine Kd.zqb ?_ _) | (with_reducible refine Kd.zmc ?_))); (case side3 => exact (Kd.zgb HO435.out).2.1); (case side4 => exact Kd.C_nil _ _); (case side5 => exact Nat.le_refl _); rintro e w20 ⟨v438, rfl, ho0, hb⟩; refine ⟨_, rfl, ?_⟩; have HO439 := zaa.mk (Kd.V_lower (Kd.zcc (ok' := fun k_ => some k_ ≠ (.slice Ao14 y426.length co14 : Value).ownBlock ∧ some k_ ≠ (v430 : Value).ownBlock ∧ some k_ ≠ (.slice Ao19 y433.length co19 : Value).ownBlock ∧ k_ ≠ gb425) ho0 (fun k_ hk_ => ⟨Or.elim hk_ (fun hs_ => ((Kd.zpc (Kd.zfc (HO424.out) (Kd.zkd HO428.out) (by decide)) BK425.out (by decide)).1 k_ hs_.symm).1.2) (fun hn_ => (Kd.fresh' (Kd.R_lt (by (with_reducible repeat (first | apply Kd.zqa | apply Kd.zpa | apply Kd.zsa)); exact HO428.out)) k_ hn_)), Or.elim hk_ (fun hs_ => ((Kd.zpc (Kd.zfc (HO424.out) (Kd.zkd HO428.out) (by decide)) BK425.out (by decide)).1 k_ hs_.symm).1.1.1.2) (fun hn_ => (Kd.fresh' (Kd.R_lt (by (with_reducible repeat (first | apply Kd.zqa | apply Kd.zpa | apply Kd.zsa)); exact HO431.out)) k_ hn_)), Or.elim hk_ (fun hs_ => ((Kd.zpc (Kd.zfc (HO424.out) (Kd.zkd HO428.out) (by decide)) BK425.out (by decide)).1 k_ hs_.symm).1.1.2) (fun hn_ => (Kd.fresh' (Kd.R_lt (by (with_reducible repeat (first | apply Kd.zqa | apply Kd.zpa | apply Kd.zsa)); exact HO435.out)) k_ hn_)), Or.elim hk_ (fun hs_ => ((Kd.zpc (Kd.zfc (HO424.out) (Kd.zkd HO428.out) (by decide)) BK425.out (by decide)).1 k_ hs_.symm).2) (fun hn_ => (Kd.freshB (g := gb425) (o := .cells #[.int .i64 6, .slice Ao9 y422.length co9] 29 (0, 0)) (by (with_reducible repeat (first | refine zga ?_ _ | refine zha ?_ | refine zfa ?_ _)); exact BK425.out) k_ hn_))⟩)) (zja (by repeat (first | (with_reducible first | exact HB.out | apply zda | apply zba | apply zca | refine zea ?_ GE425.out) | exact HB.out)))); replace HO424 := zaa.mk (Kd.zcb (by (with_reducible repeat (first | apply Kd.zqa | apply Kd.zpa | apply Kd.zsa)); exact HO424.out) hb); replace HO428 := zaa.mk (Kd.zcb (by (with_reducible repeat (first | apply Kd.zqa | apply Kd.zpa | apply Kd.zsa)); exact HO428.out) hb); replace HO431 := zaa.mk (Kd.zcb (by (with_reducible repeat (first | apply Kd.zqa | apply Kd.zpa | apply Kd.zsa)); exact HO431.out) hb); replace HO435 := zaa.mk (Kd.zcb (by (with_reducible repeat (first | apply Kd.zqa | apply Kd.zpa | apply Kd.zsa)); exact HO435.out) hb); replace BK425 := zaa.mk (zna (g := gb425) (o := .cells #[.int .i64 6, .slice Ao9 y422.length co9] 29 (0, 0)) (by (with_reducible repeat (first | refine zga ?_ _ | refine zha ?_ | refine zfa ?_ _)); exact BK425.out) hb); replace HB := zaa.mk (zma (by repeat (first | (with_reducible first | exact HB.out | apply zda | apply zba | apply zca | refine zea ?_ GE425.out) | exact HB.out)) hb); (try clear hb); (try clear hb2); (try clear hk); (try clear hi); (try clear ho0)) | ((with_reducible refine zbb (N := 31) rfl ?_); (try (refine zid (by rfl) ?_; dsimp only)); refine Kd.R_lit (Kd.int .i64) _ 3 ?hg (N := 31) ?hd (xs := ([30, 18] : List Int)) (inner := [.int .i64 30, .int .i64 18]) (ok := fun _ => True) (okp := fun _ => True) ?hr ?hp (fun _ hk => hk) trivial (Below.refl _ _) (Nat.le_refl _) (by simp) ?_; (case hd => rfl); (case hg => rfl); (case hr => first | (go_simp; done) | (go_simp; rfl)); (case hp => exact (Reps.one (show Kd.M (Kd.int .i64) _ _ _ 30 [.int .i64 30] from rfl) (Reps.one (show Kd.M (Kd.int .i64) _ _ _ 18 [.int .i64 18] from rfl) (Reps.none _ _)))); intro v442 w21 ho22 hb hg_ hnew_; clear hg_ hnew_; (first | rw [← Ny441.out] at ho22 | (simp only [Int.reduceToNat] at ho22; rw [← Ny441.out] at ho22)); replace HO428 := zaa.mk (Kd.zcb (by (with_reducible repeat (first | apply Kd.zqa | apply Kd.zpa | apply Kd.zsa)); exact HO428.out) hb); replace HO439 := zaa.mk (Kd.V_elder' (by (with_reducible repeat (first | apply Kd.zza | apply Kd.zya | apply Kd.zib)); exact HO439.out) (Kd.zxd ho22) hb); have HO443 := zaa.mk (Kd.znd (Kd.R_new' (Kd.R_new' (Kd.R_new' ho22 (Kd.R_lt (by (with_reducible repeat (first | apply Kd.zqa | apply Kd.zpa | apply Kd.zsa)); exact HO424.out))) (Kd.R_lt (by (with_reducible repeat (first | apply Kd.zqa | apply Kd.zpa | apply Kd.zsa)); exact HO431.out))) (Kd.R_lt (by (with_reducible repeat (first | apply Kd.zqa | apply Kd.zpa | apply Kd.zsa)); exact HO435.out))) (zja (by repeat (first | (with_reducible first | exact HB.out | apply zda | apply zba | apply zca | refine zea ?_ GE425.out) | exact HB.out)))); replace HO424 := zaa.mk (Kd.R_elder' (by (with_reducible repeat (first | apply Kd.zqa | apply Kd.zpa | apply Kd.zsa)); exact HO424.out) (Kd.zxd ho22) hb); replace HO431 := zaa.mk (Kd.R_elder' (by (with_reducible repeat (first | apply Kd.zqa | apply Kd.zpa | apply Kd.zsa)); exact HO431.out) (Kd.zxd ho22) hb); replace HO435 := zaa.mk (Kd.R_elder' (by (with_reducible repeat (first | apply Kd.zqa | apply Kd.zpa | apply Kd.zsa)); exact HO435.out) (Kd.zxd ho22) hb); replace BK425 := zaa.mk (zna (g := gb425) (o := .cells #[.int .i64 6, .slice Ao9 y422.length co9] 29 (0, 0)) (by (with_reducible repeat (first | refine zga ?_ _ | refine zha ?_ | refine zfa ?_ _)); exact BK425.out) hb); replace HB := zaa.mk (zma (by repeat (first | (with_reducible first | exact HB.out | apply zda | apply zba | apply zca | refine zea ?_ GE425.out) | exact HB.out)) hb); clear hb ho22; obtain ⟨Ao23, co23, eo23⟩ := Kd.zfd HO431.out; subst eo23; obtain ⟨Ao24, co24, eo24⟩ := Kd.zfd HO443.out; subst eo24) | (go_at_call 7; (with_reducible refine (zab.calls k _ _ t429 _ _ y441 true _ ?side1 ?side2 ?side3 ?side4 A5.out).mono ?_); (case side1 => repeat (first | exact (Kd.zgb HO431.out).2.2 | (with_reducible refine Kd.zrb ?_ _) | (with_reducible refine Kd.zqb ?_ _) | (with_reducible refine Kd.zmc ?_))); (case side2 => exact (Kd.zgb HO431.out).2.1); (case side3 => repeat (first | exact (Kd.zgb HO443.out).2.2 | (with_reducible refine Kd.zrb ?_ _) | (with_reducible refine Kd.zqb ?_ _) | (with_reducible refine Kd.zmc ?_))); (case side4 => exact (Kd.zgb HO443.out).2.1); rintro e w' ⟨rfl, ⟨nd, rfl⟩⟩))
       go_ret
       exact ⟨by first | rfl | (simp [zwa, zva] <;> rfl) | (simp [*, zwa, zva] <;> rfl), by repeat (first | (with_reducible first | exact HB.out | apply zda | apply zba | apply zca | refine zea ?_ GE425.out) | exact HB.out)⟩
     · replace c6 := Bool.eq_false_iff.mpr c6
       subst c6
       have H1 : (none) = some r := by rw [if_neg (show ¬ (false = true) by decide)] at H; exact H
       clear H
       have H := H1
       clear H1
       exact absurd H (by simp)
   · rw [if_neg c4] at H
     exact absurd H (by simp)
 · rw [if_neg c3] at H
   exact absurd H (by simp)
end Go.Proofs.YtoacbkoenkiahaaGreat.PTopGluePlate
end
section
namespace Go.Proofs.YtoacbkoenkiahaaGreat.PTopGluePlate
open Go.RowKit Go.Proofs.YtoacbkoenkiahaaGreatW.PrintWords Go.Proofs.YtoacbkoenkiahaaGreatW.PrintLast Go.Proofs.YtoacbkoenkiahaaGreatW.PrintMore
attribute [local go_sem] znb zlb zhc zgc zeb zdb zmb zkb
set_option linter.unusedVariables false
set_option linter.unusedSimpArgs false
attribute [local go_sem high] eqA51
mutual
def zia.l0 : Nat → Int → Int → Int → List ByteArray → List (S59) → Int → Int → List Int → Option (Bool)
 | 0, _, _, _, _, _, _, _, _ => none
 | k + 1, x8, x10, x11, x18, x22, x23, x455000, x455001 => if x23 < 3 then (if 0 ≤ x23 then (if x23 < (x18.length : Int) then (if ((rdOf ByteArray.empty x18 x23).size : Int) = x8 then (zia.l1 k x8 x10 x11 x18 x22 x23 0 x455000 x455001) else (none)) else (none)) else (none)) else ((glue_Explain.f k x455000 x455001 (([x10] : List Int)) x22).bind fun bt505 => (if bt505.2.2 = 0 then (if bt505.1 ≥ 1 then (if (bt505.2.1.length : Int) ≤ 1 then ((testlinertop_pubPrint.f k).bind fun t510 => (if t510 = true then ((zfe.f k).bind fun t511 => (some t511)) else (none))) else (none)) else (none)) else (none)))
def zia.l1 : Nat → Int → Int → Int → List ByteArray → List (S59) → Int → Int → Int → List Int → Option (Bool)
 | 0, _, _, _, _, _, _, _, _, _ => none
 | k + 1, x8, x10, x11, x18, x22, x23, x24, x455000, x455001 => if x24 < x8 then (if 0 ≤ x23 then (if x23 < (x18.length : Int) then (if 0 ≤ x24 then (if x24 < ((rdOf ByteArray.empty x18 x23).size : Int) then (if x22.length < 4398046511104 then (zia.l1 k x8 x10 x11 x18 (x22 ++ [(⟨x11, x23, x24, ((bt (rdOf ByteArray.empty x18 x23) x24) == 49)⟩ : S59)]) x23 (wrap64 (x24 + 1)) x455000 x455001) else (none)) else (none)) else (none)) else (none)) else (none)) else (zia.l0 k x8 x10 x11 x18 x22 (wrap64 (x23 + 1)) x455000 x455001)
end
def zia.f (k : Nat) (a0_0 : Int) (a0_1 : Int) (a0_2 : Int) (a0_3 : Int) (a1_0 : Int) (a1_1 : Int) (a1_2 : Int) (a2 : Int) : Option (Bool) := (zrc.f a0_0 a0_1 a0_2 a0_3).bind fun bt447 => ((zdc.f bt447.1).bind fun t451 => ((some (([(⟨Int.tmod (wrap64 (a1_0)) 3, wrap64 (1 + (Int.tmod (wrap64 (a1_1)) 4)), Int.tmod (wrap64 (a1_2)) 4⟩ : S32)] : List (S32)) : List (S32))).bind fun y455 => ((zhe.f k bt447.2 t451 ([] : List (S32)) (Int.tmod (wrap64 (a2)) 8)).bind fun bt458 => ((some (([] : List (S32)) : List (S32))).bind fun y462 => (if y462.length + y455.length < 5864062014805 then ((zhe.f k bt447.2 t451 (y462 ++ y455) (Int.tmod (wrap64 (a2)) 8)).bind fun bt468 => (if bt458.2 = 0 then (if bt468.2 = 0 then ((zab.f k bt458.1 bt447.1).bind fun t472 => (if t472 = true then (if (bt468.1.length : Int) = 3 then ((zdc.f bt468.1).bind fun t473 => ((some (([t473] : List (List Int)) : List (List Int))).bind fun y476 => ((zec.f k bt447.2 3 y476 (([(⟨0, 0⟩ : S45)] : List (S45)))).bind fun bt483 => ((zuc.f k bt447.2 3 y476 (([(⟨(⟨0, 0⟩ : S51), (⟨0, 0⟩ : S51)⟩ : S53)] : List (S53))) 1).bind fun bt490 => (if bt483.2 = 0 then (if bt490.2 = 0 then (if (bt483.1.length : Int) = 3 then (if (bt490.1.length : Int) = 1 then (if 0 < (bt490.1.length : Int) then ((zoa.f k bt468.1).bind fun t495 => ((zoa.f k bt468.1).bind fun t496 => ((ztb.f t495 t496).bind fun bt497 => (if (!(((rd_T51 bt490.1 0).f0) == bt497.1) || (!(((rd_T51 bt490.1 0).f1) == bt497.2))) = true then (none) else (zia.l0 k bt447.2 (Int.tmod (wrap64 (a1_2)) 4) (Int.tmod (wrap64 (a2)) 8) bt483.1 (([] : List (S59))) 0 bt447.2 t451))))) else (none)) else (none)) else (none)) else (none)) else (none)))))) else (none)) else (none))) else (none)) else (none))) else (none))))))
def zia.T2 : Bool × List (List Nat × List Nat) := (true, [([], []), ([], []), ([1], [1]), ([0, 2], [0, 2]), ([], []), ([4], [4]), ([5], [5]), ([6], [6]), ([], []), ([8], [8]), ([9], [9]), ([], []), ([11, 3, 2, 0, 1, 2, 3, 11], [3, 11]), ([7, 12, 0, 1, 2, 3, 4, 5, 6, 7, 11, 12], [7]), ([10, 13, 0, 1, 2, 3, 4, 5, 6, 7, 8, 9, 10, 11, 12, 13], [10])])
def zia.B2 : List Nat := [0, 0, 2, 7, 0, 16, 48, 112, 0, 256, 768, 0, 2063, 6399, 16383]
theorem zia.tab2 : rtab .any (opsOf Tryz.f3 2) = zia.T2 := by kernel_rfl
theorem zia.bits2 : waitsOk zia.T2.2 zia.B2 = true := by kernel_rfl
def zia.T5 : Bool × List (List Nat × List Nat) := (true, [([], []), ([], []), ([], []), ([1, 2], [1, 2]), ([], []), ([0, 3, 4, 3], [0, 3, 4]), ([5], [5]), ([6], [6]), ([6], [6]), ([7, 5, 0, 1, 2, 3, 4, 5, 6, 7], [7]), ([8, 9, 0, 1, 2, 3, 4, 5, 6, 7, 8, 9], [8])])
def zia.B5 : List Nat := [0, 0, 0, 6, 0, 31, 63, 127, 127, 255, 1023]
theorem zia.tab5 : rtab .any (opsOf Tryz.f3 5) = zia.T5 := by kernel_rfl
theorem zia.bits5 : waitsOk zia.T5.2 zia.B5 = true := by kernel_rfl
def zia.T11 : Bool × List (List Nat × List Nat) := (true, [([], []), ([0], [0]), ([1], [1]), ([2], [2]), ([3, 2], [2, 3]), ([2, 4], [2, 4]), ([5, 2], [5]), ([6], [6]), ([7, 6], [6, 7]), ([8, 6], [6, 8]), ([6, 9], [6, 9]), ([10, 6], [10]), ([11], [11]), ([12, 11], [11, 12]), ([13, 11], [11, 13]), ([11, 14], [11, 14]), ([15, 11], [15]), ([16], [16]), ([17, 16], [16, 17]), ([18, 16], [16, 18]), ([16], [16]), ([20, 16, 16], [16, 20]), ([16], [16]), ([22, 21, 16], [16, 22]), ([21, 23, 23, 16], [16, 21, 23]), ([19, 24, 16], [16, 19, 24]), ([16, 25], [16, 25])])
def zia.B11 : List Nat := [0, 1, 3, 7, 15, 31, 63, 127, 255, 511, 1023, 2047, 4095, 8191, 16383, 32767, 65535, 131071, 262143, 524287, 131071, 1179647, 131071, 7471103, 15859711, 33554431, 67108863]
theorem zia.tab11 : rtab .any (opsOf Tryz.f3 11) = zia.T11 := by kernel_rfl
theorem zia.bits11 : waitsOk zia.T11.2 zia.B11 = true := by kernel_rfl
set_option maxHeartbeats 8000000 in
set_option maxRecDepth 100000 in
theorem zia.calls (k : Nat) (a0_0 : Int) (a0_1 : Int) (a0_2 : Int) (a0_3 : Int) (a1_0 : Int) (a1_1 : Int) (a1_2 : Int) (a2 : Int) (r : Bool) (w : World) (h : zia.f k a0_0 a0_1 a0_2 a0_3 a1_0 a1_1 a1_2 a2 = some r) :
 Calls Tryz.prog 3 #[.agg #[.int .u8 a0_0, .int .u8 a0_1, .int .u8 a0_2, .int .u8 a0_3], .agg #[.int .u8 a1_0, .int .u8 a1_1, .int .u8 a1_2], .int .u8 a2] w fun e w' => e = .returned (.bool r) ∧ Below w.heap.size w w' := by
 have hu22 := Tryz.underlying22
 have hu23 := Tryz.underlying23
 have hu29 := Tryz.underlying29
 have hu32 := Tryz.underlying32
 have hu40 := Tryz.underlying40
 have hu45 := Tryz.underlying45
 have hu53 := Tryz.underlying53
 have hu51 := Tryz.underlying51
 have hu59 := Tryz.underlying59
 have HB := zaa.mk (Below.refl w.heap.size w)
 have H : ((zrc.f a0_0 a0_1 a0_2 a0_3).bind fun bt447 => ((zdc.f bt447.1).bind fun t451 => ((some (([(⟨Int.tmod (wrap64 (a1_0)) 3, wrap64 (1 + (Int.tmod (wrap64 (a1_1)) 4)), Int.tmod (wrap64 (a1_2)) 4⟩ : S32)] : List (S32)) : List (S32))).bind fun y455 => ((zhe.f k bt447.2 t451 ([] : List (S32)) (Int.tmod (wrap64 (a2)) 8)).bind fun bt458 => ((some (([] : List (S32)) : List (S32))).bind fun y462 => (if y462.length + y455.length < 5864062014805 then ((zhe.f k bt447.2 t451 (y462 ++ y455) (Int.tmod (wrap64 (a2)) 8)).bind fun bt468 => (if bt458.2 = 0 then (if bt468.2 = 0 then ((zab.f k bt458.1 bt447.1).bind fun t472 => (if t472 = true then (if (bt468.1.length : Int) = 3 then ((zdc.f bt468.1).bind fun t473 => ((some (([t473] : List (List Int)) : List (List Int))).bind fun y476 => ((zec.f k bt447.2 3 y476 (([(⟨0, 0⟩ : S45)] : List (S45)))).bind fun bt483 => ((zuc.f k bt447.2 3 y476 (([(⟨(⟨0, 0⟩ : S51), (⟨0, 0⟩ : S51)⟩ : S53)] : List (S53))) 1).bind fun bt490 => (if bt483.2 = 0 then (if bt490.2 = 0 then (if (bt483.1.length : Int) = 3 then (if (bt490.1.length : Int) = 1 then (if 0 < (bt490.1.length : Int) then ((zoa.f k bt468.1).bind fun t495 => ((zoa.f k bt468.1).bind fun t496 => ((ztb.f t495 t496).bind fun bt497 => (if (!(((rd_T51 bt490.1 0).f0) == bt497.1) || (!(((rd_T51 bt490.1 0).f1) == bt497.2))) = true then (none) else (zia.l0 k bt447.2 (Int.tmod (wrap64 (a1_2)) 4) (Int.tmod (wrap64 (a2)) 8) bt483.1 (([] : List (S59))) 0 bt447.2 t451))))) else (none)) else (none)) else (none)) else (none)) else (none)))))) else (none)) else (none))) else (none)) else (none))) else (none))))))) = some r := h
 clear h
 replace H := Option.bind_eq_some_iff.mp H
 obtain ⟨⟨t447, t450⟩, A40, H⟩ := H
 replace H : ((zdc.f t447).bind fun t451 => ((some (([(⟨Int.tmod (wrap64 (a1_0)) 3, wrap64 (1 + (Int.tmod (wrap64 (a1_1)) 4)), Int.tmod (wrap64 (a1_2)) 4⟩ : S32)] : List (S32)) : List (S32))).bind fun y455 => ((zhe.f k t450 t451 ([] : List (S32)) (Int.tmod (wrap64 (a2)) 8)).bind fun bt458 => ((some (([] : List (S32)) : List (S32))).bind fun y462 => (if y462.length + y455.length < 5864062014805 then ((zhe.f k t450 t451 (y462 ++ y455) (Int.tmod (wrap64 (a2)) 8)).bind fun bt468 => (if bt458.2 = 0 then (if bt468.2 = 0 then ((zab.f k bt458.1 t447).bind fun t472 => (if t472 = true then (if (bt468.1.length : Int) = 3 then ((zdc.f bt468.1).bind fun t473 => ((some (([t473] : List (List Int)) : List (List Int))).bind fun y476 => ((zec.f k t450 3 y476 (([(⟨0, 0⟩ : S45)] : List (S45)))).bind fun bt483 => ((zuc.f k t450 3 y476 (([(⟨(⟨0, 0⟩ : S51), (⟨0, 0⟩ : S51)⟩ : S53)] : List (S53))) 1).bind fun bt490 => (if bt483.2 = 0 then (if bt490.2 = 0 then (if (bt483.1.length : Int) = 3 then (if (bt490.1.length : Int) = 1 then (if 0 < (bt490.1.length : Int) then ((zoa.f k bt468.1).bind fun t495 => ((zoa.f k bt468.1).bind fun t496 => ((ztb.f t495 t496).bind fun bt497 => (if (!(((rd_T51 bt490.1 0).f0) == bt497.1) || (!(((rd_T51 bt490.1 0).f1) == bt497.2))) = true then (none) else (zia.l0 k t450 (Int.tmod (wrap64 (a1_2)) 4) (Int.tmod (wrap64 (a2)) 8) bt483.1 (([] : List (S59))) 0 t450 t451))))) else (none)) else (none)) else (none)) else (none)) else (none)))))) else (none)) else (none))) else (none)) else (none))) else (none)))))) = some r := H
 have A4 := zaa.mk A40
 clear A40
 replace H := Option.bind_eq_some_iff.mp H
 obtain ⟨t451, A50, H⟩ := H
 replace H : ((some (([(⟨Int.tmod (wrap64 (a1_0)) 3, wrap64 (1 + (Int.tmod (wrap64 (a1_1)) 4)), Int.tmod (wrap64 (a1_2)) 4⟩ : S32)] : List (S32)) : List (S32))).bind fun y455 => ((zhe.f k t450 t451 ([] : List (S32)) (Int.tmod (wrap64 (a2)) 8)).bind fun bt458 => ((some (([] : List (S32)) : List (S32))).bind fun y462 => (if y462.length + y455.length < 5864062014805 then ((zhe.f k t450 t451 (y462 ++ y455) (Int.tmod (wrap64 (a2)) 8)).bind fun bt468 => (if bt458.2 = 0 then (if bt468.2 = 0 then ((zab.f k bt458.1 t447).bind fun t472 => (if t472 = true then (if (bt468.1.length : Int) = 3 then ((zdc.f bt468.1).bind fun t473 => ((some (([t473] : List (List Int)) : List (List Int))).bind fun y476 => ((zec.f k t450 3 y476 (([(⟨0, 0⟩ : S45)] : List (S45)))).bind fun bt483 => ((zuc.f k t450 3 y476 (([(⟨(⟨0, 0⟩ : S51), (⟨0, 0⟩ : S51)⟩ : S53)] : List (S53))) 1).bind fun bt490 => (if bt483.2 = 0 then (if bt490.2 = 0 then (if (bt483.1.length : Int) = 3 then (if (bt490.1.length : Int) = 1 then (if 0 < (bt490.1.length : Int) then ((zoa.f k bt468.1).bind fun t495 => ((zoa.f k bt468.1).bind fun t496 => ((ztb.f t495 t496).bind fun bt497 => (if (!(((rd_T51 bt490.1 0).f0) == bt497.1) || (!(((rd_T51 bt490.1 0).f1) == bt497.2))) = true then (none) else (zia.l0 k t450 (Int.tmod (wrap64 (a1_2)) 4) (Int.tmod (wrap64 (a2)) 8) bt483.1 (([] : List (S59))) 0 t450 t451))))) else (none)) else (none)) else (none)) else (none)) else (none)))))) else (none)) else (none))) else (none)) else (none))) else (none))))) = some r := H
 have A5 := zaa.mk A50
 clear A50
 obtain ⟨y455, hy455⟩ : ∃ y_ : List (S32), y_ = (([(⟨Int.tmod (wrap64 (a1_0)) 3, wrap64 (1 + (Int.tmod (wrap64 (a1_1)) 4)), Int.tmod (wrap64 (a1_2)) 4⟩ : S32)] : List (S32))) := ⟨_, rfl⟩
 replace H : ((zhe.f k t450 t451 ([] : List (S32)) (Int.tmod (wrap64 (a2)) 8)).bind fun bt458 => ((some (([] : List (S32)) : List (S32))).bind fun y462 => (if y462.length + y455.length < 5864062014805 then ((zhe.f k t450 t451 (y462 ++ y455) (Int.tmod (wrap64 (a2)) 8)).bind fun bt468 => (if bt458.2 = 0 then (if bt468.2 = 0 then ((zab.f k bt458.1 t447).bind fun t472 => (if t472 = true then (if (bt468.1.length : Int) = 3 then ((zdc.f bt468.1).bind fun t473 => ((some (([t473] : List (List Int)) : List (List Int))).bind fun y476 => ((zec.f k t450 3 y476 (([(⟨0, 0⟩ : S45)] : List (S45)))).bind fun bt483 => ((zuc.f k t450 3 y476 (([(⟨(⟨0, 0⟩ : S51), (⟨0, 0⟩ : S51)⟩ : S53)] : List (S53))) 1).bind fun bt490 => (if bt483.2 = 0 then (if bt490.2 = 0 then (if (bt483.1.length : Int) = 3 then (if (bt490.1.length : Int) = 1 then (if 0 < (bt490.1.length : Int) then ((zoa.f k bt468.1).bind fun t495 => ((zoa.f k bt468.1).bind fun t496 => ((ztb.f t495 t496).bind fun bt497 => (if (!(((rd_T51 bt490.1 0).f0) == bt497.1) || (!(((rd_T51 bt490.1 0).f1) == bt497.2))) = true then (none) else (zia.l0 k t450 (Int.tmod (wrap64 (a1_2)) 4) (Int.tmod (wrap64 (a2)) 8) bt483.1 (([] : List (S59))) 0 t450 t451))))) else (none)) else (none)) else (none)) else (none)) else (none)))))) else (none)) else (none))) else (none)) else (none))) else (none)))) = some r := by first | (rw [hy455]; with_reducible exact H) | (have H2_ := (Option.bind_some _ _).symm.trans H; rw [hy455]; with_reducible exact H2_) | (have H2_ := (Option.bind_some _ _).symm.trans H; with_reducible exact H2_) | with_reducible exact H | (rw [hy455]; exact H) | exact H
 have Ny455 := zaa.mk hy455
 clear hy455
 replace H := Option.bind_eq_some_iff.mp H
 obtain ⟨⟨t458, t461⟩, A60, H⟩ := H
 replace H : ((some (([] : List (S32)) : List (S32))).bind fun y462 => (if y462.length + y455.length < 5864062014805 then ((zhe.f k t450 t451 (y462 ++ y455) (Int.tmod (wrap64 (a2)) 8)).bind fun bt468 => (if t461 = 0 then (if bt468.2 = 0 then ((zab.f k t458 t447).bind fun t472 => (if t472 = true then (if (bt468.1.length : Int) = 3 then ((zdc.f bt468.1).bind fun t473 => ((some (([t473] : List (List Int)) : List (List Int))).bind fun y476 => ((zec.f k t450 3 y476 (([(⟨0, 0⟩ : S45)] : List (S45)))).bind fun bt483 => ((zuc.f k t450 3 y476 (([(⟨(⟨0, 0⟩ : S51), (⟨0, 0⟩ : S51)⟩ : S53)] : List (S53))) 1).bind fun bt490 => (if bt483.2 = 0 then (if bt490.2 = 0 then (if (bt483.1.length : Int) = 3 then (if (bt490.1.length : Int) = 1 then (if 0 < (bt490.1.length : Int) then ((zoa.f k bt468.1).bind fun t495 => ((zoa.f k bt468.1).bind fun t496 => ((ztb.f t495 t496).bind fun bt497 => (if (!(((rd_T51 bt490.1 0).f0) == bt497.1) || (!(((rd_T51 bt490.1 0).f1) == bt497.2))) = true then (none) else (zia.l0 k t450 (Int.tmod (wrap64 (a1_2)) 4) (Int.tmod (wrap64 (a2)) 8) bt483.1 (([] : List (S59))) 0 t450 t451))))) else (none)) else (none)) else (none)) else (none)) else (none)))))) else (none)) else (none))) else (none)) else (none))) else (none))) = some r := H
 have A6 := zaa.mk A60
 clear A60
 obtain ⟨y462, hy462⟩ : ∃ y_ : List (S32), y_ = (([] : List (S32))) := ⟨_, rfl⟩
 replace H : (if y462.length + y455.length < 5864062014805 then ((zhe.f k t450 t451 (y462 ++ y455) (Int.tmod (wrap64 (a2)) 8)).bind fun bt468 => (if t461 = 0 then (if bt468.2 = 0 then ((zab.f k t458 t447).bind fun t472 => (if t472 = true then (if (bt468.1.length : Int) = 3 then ((zdc.f bt468.1).bind fun t473 => ((some (([t473] : List (List Int)) : List (List Int))).bind fun y476 => ((zec.f k t450 3 y476 (([(⟨0, 0⟩ : S45)] : List (S45)))).bind fun bt483 => ((zuc.f k t450 3 y476 (([(⟨(⟨0, 0⟩ : S51), (⟨0, 0⟩ : S51)⟩ : S53)] : List (S53))) 1).bind fun bt490 => (if bt483.2 = 0 then (if bt490.2 = 0 then (if (bt483.1.length : Int) = 3 then (if (bt490.1.length : Int) = 1 then (if 0 < (bt490.1.length : Int) then ((zoa.f k bt468.1).bind fun t495 => ((zoa.f k bt468.1).bind fun t496 => ((ztb.f t495 t496).bind fun bt497 => (if (!(((rd_T51 bt490.1 0).f0) == bt497.1) || (!(((rd_T51 bt490.1 0).f1) == bt497.2))) = true then (none) else (zia.l0 k t450 (Int.tmod (wrap64 (a1_2)) 4) (Int.tmod (wrap64 (a2)) 8) bt483.1 (([] : List (S59))) 0 t450 t451))))) else (none)) else (none)) else (none)) else (none)) else (none)))))) else (none)) else (none))) else (none)) else (none))) else (none)) = some r := by first | (rw [hy462]; with_reducible exact H) | (have H2_ := (Option.bind_some _ _).symm.trans H; rw [hy462]; with_reducible exact H2_) | (have H2_ := (Option.bind_some _ _).symm.trans H; with_reducible exact H2_) | with_reducible exact H | (rw [hy462]; exact H) | exact H
 have Ny462 := zaa.mk hy462
 clear hy462
 by_cases c7 : y462.length + y455.length < 5864062014805
 · rw [if_pos c7] at H
   have LMc7 := zaa.mk c7
   clear c7
   obtain ⟨y465, hy465⟩ : ∃ y_ : List (S32), y_ = (y462 ++ y455) := ⟨_, rfl⟩
   replace H : ((zhe.f k t450 t451 y465 (Int.tmod (wrap64 (a2)) 8)).bind fun bt468 => (if t461 = 0 then (if bt468.2 = 0 then ((zab.f k t458 t447).bind fun t472 => (if t472 = true then (if (bt468.1.length : Int) = 3 then ((zdc.f bt468.1).bind fun t473 => ((some (([t473] : List (List Int)) : List (List Int))).bind fun y476 => ((zec.f k t450 3 y476 (([(⟨0, 0⟩ : S45)] : List (S45)))).bind fun bt483 => ((zuc.f k t450 3 y476 (([(⟨(⟨0, 0⟩ : S51), (⟨0, 0⟩ : S51)⟩ : S53)] : List (S53))) 1).bind fun bt490 => (if bt483.2 = 0 then (if bt490.2 = 0 then (if (bt483.1.length : Int) = 3 then (if (bt490.1.length : Int) = 1 then (if 0 < (bt490.1.length : Int) then ((zoa.f k bt468.1).bind fun t495 => ((zoa.f k bt468.1).bind fun t496 => ((ztb.f t495 t496).bind fun bt497 => (if (!(((rd_T51 bt490.1 0).f0) == bt497.1) || (!(((rd_T51 bt490.1 0).f1) == bt497.2))) = true then (none) else (zia.l0 k t450 (Int.tmod (wrap64 (a1_2)) 4) (Int.tmod (wrap64 (a2)) 8) bt483.1 (([] : List (S59))) 0 t450 t451))))) else (none)) else (none)) else (none)) else (none)) else (none)))))) else (none)) else (none))) else (none)) else (none))) = some r := by first | (rw [hy465]; with_reducible exact H) | (have H2_ := (Option.bind_some _ _).symm.trans H; rw [hy465]; with_reducible exact H2_) | (have H2_ := (Option.bind_some _ _).symm.trans H; with_reducible exact H2_) | with_reducible exact H | (rw [hy465]; exact H) | exact H
   have Ny465 := zaa.mk hy465
   clear hy465
   replace H := Option.bind_eq_some_iff.mp H
   obtain ⟨⟨t468, t471⟩, A80, H⟩ := H
   replace H : (if t461 = 0 then (if t471 = 0 then ((zab.f k t458 t447).bind fun t472 => (if t472 = true then (if (t468.length : Int) = 3 then ((zdc.f t468).bind fun t473 => ((some (([t473] : List (List Int)) : List (List Int))).bind fun y476 => ((zec.f k t450 3 y476 (([(⟨0, 0⟩ : S45)] : List (S45)))).bind fun bt483 => ((zuc.f k t450 3 y476 (([(⟨(⟨0, 0⟩ : S51), (⟨0, 0⟩ : S51)⟩ : S53)] : List (S53))) 1).bind fun bt490 => (if bt483.2 = 0 then (if bt490.2 = 0 then (if (bt483.1.length : Int) = 3 then (if (bt490.1.length : Int) = 1 then (if 0 < (bt490.1.length : Int) then ((zoa.f k t468).bind fun t495 => ((zoa.f k t468).bind fun t496 => ((ztb.f t495 t496).bind fun bt497 => (if (!(((rd_T51 bt490.1 0).f0) == bt497.1) || (!(((rd_T51 bt490.1 0).f1) == bt497.2))) = true then (none) else (zia.l0 k t450 (Int.tmod (wrap64 (a1_2)) 4) (Int.tmod (wrap64 (a2)) 8) bt483.1 (([] : List (S59))) 0 t450 t451))))) else (none)) else (none)) else (none)) else (none)) else (none)))))) else (none)) else (none))) else (none)) else (none)) = some r := H
   have A8 := zaa.mk A80
   clear A80
   by_cases c9 : t461 = 0
   · rw [if_pos c9] at H
     have c9b0 : (t461 == 0) = true := beq_iff_eq.mpr c9
     have c9b1 : (t461 != 0) = false := bne_eq_false_iff_eq.mpr c9
     clear c9
     by_cases c10 : t471 = 0
     · rw [if_pos c10] at H
       have c10b0 : (t471 == 0) = true := beq_iff_eq.mpr c10
       have c10b1 : (t471 != 0) = false := bne_eq_false_iff_eq.mpr c10
       clear c10
       replace H := Option.bind_eq_some_iff.mp H
       obtain ⟨t472, A110, H⟩ := H
       replace H : (if t472 = true then (if (t468.length : Int) = 3 then ((zdc.f t468).bind fun t473 => ((some (([t473] : List (List Int)) : List (List Int))).bind fun y476 => ((zec.f k t450 3 y476 (([(⟨0, 0⟩ : S45)] : List (S45)))).bind fun bt483 => ((zuc.f k t450 3 y476 (([(⟨(⟨0, 0⟩ : S51), (⟨0, 0⟩ : S51)⟩ : S53)] : List (S53))) 1).bind fun bt490 => (if bt483.2 = 0 then (if bt490.2 = 0 then (if (bt483.1.length : Int) = 3 then (if (bt490.1.length : Int) = 1 then (if 0 < (bt490.1.length : Int) then ((zoa.f k t468).bind fun t495 => ((zoa.f k t468).bind fun t496 => ((ztb.f t495 t496).bind fun bt497 => (if (!(((rd_T51 bt490.1 0).f0) == bt497.1) || (!(((rd_T51 bt490.1 0).f1) == bt497.2))) = true then (none) else (zia.l0 k t450 (Int.tmod (wrap64 (a1_2)) 4) (Int.tmod (wrap64 (a2)) 8) bt483.1 (([] : List (S59))) 0 t450 t451))))) else (none)) else (none)) else (none)) else (none)) else (none)))))) else (none)) else (none)) = some r := H
       have A11 := zaa.mk A110
       clear A110
       by_cases c12 : t472 = true
       · subst c12
         have H1 : (if (t468.length : Int) = 3 then ((zdc.f t468).bind fun t473 => ((some (([t473] : List (List Int)) : List (List Int))).bind fun y476 => ((zec.f k t450 3 y476 (([(⟨0, 0⟩ : S45)] : List (S45)))).bind fun bt483 => ((zuc.f k t450 3 y476 (([(⟨(⟨0, 0⟩ : S51), (⟨0, 0⟩ : S51)⟩ : S53)] : List (S53))) 1).bind fun bt490 => (if bt483.2 = 0 then (if bt490.2 = 0 then (if (bt483.1.length : Int) = 3 then (if (bt490.1.length : Int) = 1 then (if 0 < (bt490.1.length : Int) then ((zoa.f k t468).bind fun t495 => ((zoa.f k t468).bind fun t496 => ((ztb.f t495 t496).bind fun bt497 => (if (!(((rd_T51 bt490.1 0).f0) == bt497.1) || (!(((rd_T51 bt490.1 0).f1) == bt497.2))) = true then (none) else (zia.l0 k t450 (Int.tmod (wrap64 (a1_2)) 4) (Int.tmod (wrap64 (a2)) 8) bt483.1 (([] : List (S59))) 0 t450 t451))))) else (none)) else (none)) else (none)) else (none)) else (none)))))) else (none)) = some r := by rw [if_pos rfl] at H; exact H
         clear H
         have H := H1
         clear H1
         by_cases c13 : (t468.length : Int) = 3
         · rw [if_pos c13] at H
           have c13b0 : ((t468.length : Int) == 3) = true := beq_iff_eq.mpr c13
           have c13b1 : ((t468.length : Int) != 3) = false := bne_eq_false_iff_eq.mpr c13
           clear c13
           replace H := Option.bind_eq_some_iff.mp H
           obtain ⟨t473, A140, H⟩ := H
           replace H : ((some (([t473] : List (List Int)) : List (List Int))).bind fun y476 => ((zec.f k t450 3 y476 (([(⟨0, 0⟩ : S45)] : List (S45)))).bind fun bt483 => ((zuc.f k t450 3 y476 (([(⟨(⟨0, 0⟩ : S51), (⟨0, 0⟩ : S51)⟩ : S53)] : List (S53))) 1).bind fun bt490 => (if bt483.2 = 0 then (if bt490.2 = 0 then (if (bt483.1.length : Int) = 3 then (if (bt490.1.length : Int) = 1 then (if 0 < (bt490.1.length : Int) then ((zoa.f k t468).bind fun t495 => ((zoa.f k t468).bind fun t496 => ((ztb.f t495 t496).bind fun bt497 => (if (!(((rd_T51 bt490.1 0).f0) == bt497.1) || (!(((rd_T51 bt490.1 0).f1) == bt497.2))) = true then (none) else (zia.l0 k t450 (Int.tmod (wrap64 (a1_2)) 4) (Int.tmod (wrap64 (a2)) 8) bt483.1 (([] : List (S59))) 0 t450 t451))))) else (none)) else (none)) else (none)) else (none)) else (none))))) = some r := H
           have A14 := zaa.mk A140
           clear A140
           obtain ⟨y476, hy476⟩ : ∃ y_ : List (List Int), y_ = (([t473] : List (List Int))) := ⟨_, rfl⟩
           replace H : ((zec.f k t450 3 y476 (([(⟨0, 0⟩ : S45)] : List (S45)))).bind fun bt483 => ((zuc.f k t450 3 y476 (([(⟨(⟨0, 0⟩ : S51), (⟨0, 0⟩ : S51)⟩ : S53)] : List (S53))) 1).bind fun bt490 => (if bt483.2 = 0 then (if bt490.2 = 0 then (if (bt483.1.length : Int) = 3 then (if (bt490.1.length : Int) = 1 then (if 0 < (bt490.1.length : Int) then ((zoa.f k t468).bind fun t495 => ((zoa.f k t468).bind fun t496 => ((ztb.f t495 t496).bind fun bt497 => (if (!(((rd_T51 bt490.1 0).f0) == bt497.1) || (!(((rd_T51 bt490.1 0).f1) == bt497.2))) = true then (none) else (zia.l0 k t450 (Int.tmod (wrap64 (a1_2)) 4) (Int.tmod (wrap64 (a2)) 8) bt483.1 (([] : List (S59))) 0 t450 t451))))) else (none)) else (none)) else (none)) else (none)) else (none)))) = some r := by first | (rw [hy476]; with_reducible exact H) | (have H2_ := (Option.bind_some _ _).symm.trans H; rw [hy476]; with_reducible exact H2_) | (have H2_ := (Option.bind_some _ _).symm.trans H; with_reducible exact H2_) | with_reducible exact H | (rw [hy476]; exact H) | exact H
           have Ny476 := zaa.mk hy476
           clear hy476
           obtain ⟨y480, hy480⟩ : ∃ y_ : List (S45), y_ = (([(⟨0, 0⟩ : S45)] : List (S45))) := ⟨_, rfl⟩
           replace H : ((zec.f k t450 3 y476 y480).bind fun bt483 => ((zuc.f k t450 3 y476 (([(⟨(⟨0, 0⟩ : S51), (⟨0, 0⟩ : S51)⟩ : S53)] : List (S53))) 1).bind fun bt490 => (if bt483.2 = 0 then (if bt490.2 = 0 then (if (bt483.1.length : Int) = 3 then (if (bt490.1.length : Int) = 1 then (if 0 < (bt490.1.length : Int) then ((zoa.f k t468).bind fun t495 => ((zoa.f k t468).bind fun t496 => ((ztb.f t495 t496).bind fun bt497 => (if (!(((rd_T51 bt490.1 0).f0) == bt497.1) || (!(((rd_T51 bt490.1 0).f1) == bt497.2))) = true then (none) else (zia.l0 k t450 (Int.tmod (wrap64 (a1_2)) 4) (Int.tmod (wrap64 (a2)) 8) bt483.1 (([] : List (S59))) 0 t450 t451))))) else (none)) else (none)) else (none)) else (none)) else (none)))) = some r := by first | (rw [hy480]; with_reducible exact H) | (have H2_ := (Option.bind_some _ _).symm.trans H; rw [hy480]; with_reducible exact H2_) | (have H2_ := (Option.bind_some _ _).symm.trans H; with_reducible exact H2_) | with_reducible exact H | (rw [hy480]; exact H) | exact H
           have Ny480 := zaa.mk hy480
           clear hy480
           replace H := Option.bind_eq_some_iff.mp H
           obtain ⟨⟨t483, t486⟩, A150, H⟩ := H
           replace H : ((zuc.f k t450 3 y476 (([(⟨(⟨0, 0⟩ : S51), (⟨0, 0⟩ : S51)⟩ : S53)] : List (S53))) 1).bind fun bt490 => (if t486 = 0 then (if bt490.2 = 0 then (if (t483.length : Int) = 3 then (if (bt490.1.length : Int) = 1 then (if 0 < (bt490.1.length : Int) then ((zoa.f k t468).bind fun t495 => ((zoa.f k t468).bind fun t496 => ((ztb.f t495 t496).bind fun bt497 => (if (!(((rd_T51 bt490.1 0).f0) == bt497.1) || (!(((rd_T51 bt490.1 0).f1) == bt497.2))) = true then (none) else (zia.l0 k t450 (Int.tmod (wrap64 (a1_2)) 4) (Int.tmod (wrap64 (a2)) 8) t483 (([] : List (S59))) 0 t450 t451))))) else (none)) else (none)) else (none)) else (none)) else (none))) = some r := H
           have A15 := zaa.mk A150
           clear A150
           obtain ⟨y487, hy487⟩ : ∃ y_ : List (S53), y_ = (([(⟨(⟨0, 0⟩ : S51), (⟨0, 0⟩ : S51)⟩ : S53)] : List (S53))) := ⟨_, rfl⟩
           replace H : ((zuc.f k t450 3 y476 y487 1).bind fun bt490 => (if t486 = 0 then (if bt490.2 = 0 then (if (t483.length : Int) = 3 then (if (bt490.1.length : Int) = 1 then (if 0 < (bt490.1.length : Int) then ((zoa.f k t468).bind fun t495 => ((zoa.f k t468).bind fun t496 => ((ztb.f t495 t496).bind fun bt497 => (if (!(((rd_T51 bt490.1 0).f0) == bt497.1) || (!(((rd_T51 bt490.1 0).f1) == bt497.2))) = true then (none) else (zia.l0 k t450 (Int.tmod (wrap64 (a1_2)) 4) (Int.tmod (wrap64 (a2)) 8) t483 (([] : List (S59))) 0 t450 t451))))) else (none)) else (none)) else (none)) else (none)) else (none))) = some r := by first | (rw [hy487]; with_reducible exact H) | (have H2_ := (Option.bind_some _ _).symm.trans H; rw [hy487]; with_reducible exact H2_) | (have H2_ := (Option.bind_some _ _).symm.trans H; with_reducible exact H2_) | with_reducible exact H | (rw [hy487]; exact H) | exact H
           have Ny487 := zaa.mk hy487
           clear hy487
           replace H := Option.bind_eq_some_iff.mp H
           obtain ⟨⟨t490, t493⟩, A160, H⟩ := H
           replace H : (if t486 = 0 then (if t493 = 0 then (if (t483.length : Int) = 3 then (if (t490.length : Int) = 1 then (if 0 < (t490.length : Int) then ((zoa.f k t468).bind fun t495 => ((zoa.f k t468).bind fun t496 => ((ztb.f t495 t496).bind fun bt497 => (if (!(((rd_T51 t490 0).f0) == bt497.1) || (!(((rd_T51 t490 0).f1) == bt497.2))) = true then (none) else (zia.l0 k t450 (Int.tmod (wrap64 (a1_2)) 4) (Int.tmod (wrap64 (a2)) 8) t483 (([] : List (S59))) 0 t450 t451))))) else (none)) else (none)) else (none)) else (none)) else (none)) = some r := H
           have A16 := zaa.mk A160
           clear A160
           by_cases c17 : t486 = 0
           · rw [if_pos c17] at H
             have c17b0 : (t486 == 0) = true := beq_iff_eq.mpr c17
             have c17b1 : (t486 != 0) = false := bne_eq_false_iff_eq.mpr c17
             clear c17
             by_cases c18 : t493 = 0
             · rw [if_pos c18] at H
               have c18b0 : (t493 == 0) = true := beq_iff_eq.mpr c18
               have c18b1 : (t493 != 0) = false := bne_eq_false_iff_eq.mpr c18
               clear c18
               by_cases c19 : (t483.length : Int) = 3
               · rw [if_pos c19] at H
                 have c19b0 : ((t483.length : Int) == 3) = true := beq_iff_eq.mpr c19
                 have c19b1 : ((t483.length : Int) != 3) = false := bne_eq_false_iff_eq.mpr c19
                 clear c19
                 by_cases c20 : (t490.length : Int) = 1
                 · rw [if_pos c20] at H
                   have c20b0 : ((t490.length : Int) == 1) = true := beq_iff_eq.mpr c20
                   have c20b1 : ((t490.length : Int) != 1) = false := bne_eq_false_iff_eq.mpr c20
                   clear c20
                   by_cases c21 : 0 < (t490.length : Int)
                   · rw [if_pos c21] at H
                     have c21b0 : decide (0 < (t490.length : Int)) = true := decide_eq_true c21
                     have c21b1 : decide (0 < t490.length) = true := decide_eq_true (by omega)
                     clear c21
                     replace H := Option.bind_eq_some_iff.mp H
                     obtain ⟨t495, A220, H⟩ := H
                     replace H : ((zoa.f k t468).bind fun t496 => ((ztb.f t495 t496).bind fun bt497 => (if (!(((rd_T51 t490 0).f0) == bt497.1) || (!(((rd_T51 t490 0).f1) == bt497.2))) = true then (none) else (zia.l0 k t450 (Int.tmod (wrap64 (a1_2)) 4) (Int.tmod (wrap64 (a2)) 8) t483 (([] : List (S59))) 0 t450 t451)))) = some r := H
                     have A22 := zaa.mk A220
                     clear A220
                     replace H := Option.bind_eq_some_iff.mp H
                     obtain ⟨t496, A230, H⟩ := H
                     replace H : ((ztb.f t495 t496).bind fun bt497 => (if (!(((rd_T51 t490 0).f0) == bt497.1) || (!(((rd_T51 t490 0).f1) == bt497.2))) = true then (none) else (zia.l0 k t450 (Int.tmod (wrap64 (a1_2)) 4) (Int.tmod (wrap64 (a2)) 8) t483 (([] : List (S59))) 0 t450 t451))) = some r := H
                     have A23 := zaa.mk A230
                     clear A230
                     replace H := Option.bind_eq_some_iff.mp H
                     obtain ⟨⟨t497, t498⟩, A240, H⟩ := H
                     replace H : (if (!(((rd_T51 t490 0).f0) == t497) || (!(((rd_T51 t490 0).f1) == t498))) = true then (none) else (zia.l0 k t450 (Int.tmod (wrap64 (a1_2)) 4) (Int.tmod (wrap64 (a2)) 8) t483 (([] : List (S59))) 0 t450 t451)) = some r := H
                     have A24 := zaa.mk A240
                     clear A240
                     by_cases c25 : (!(((rd_T51 t490 0).f0) == t497) || (!(((rd_T51 t490 0).f1) == t498))) = true
                     · rw [if_pos c25] at H
                       exact absurd H (by simp)
                     · rw [if_neg c25] at H
                       have c25b0 : (!(((rd_T51 t490 0).f0) == t497) || (!(((rd_T51 t490 0).f1) == t498))) = false := by simpa using c25
                       clear c25
                       obtain ⟨y499, hy499⟩ : ∃ y_ : List (S59), y_ = (([] : List (S59))) := ⟨_, rfl⟩
                       replace H : (zia.l0 k t450 (Int.tmod (wrap64 (a1_2)) 4) (Int.tmod (wrap64 (a2)) 8) t483 y499 0 t450 t451) = some r := by first | (rw [hy499]; with_reducible exact H) | (have H2_ := (Option.bind_some _ _).symm.trans H; rw [hy499]; with_reducible exact H2_) | (have H2_ := (Option.bind_some _ _).symm.trans H; with_reducible exact H2_) | with_reducible exact H | (rw [hy499]; exact H) | exact H
                       have Ny499 := zaa.mk hy499
                       clear hy499
                       have H' := zaa.mk H
                       clear H
                       go_enter Tryz.func3, Tryz.ntmps3
                       try go_wp2_with (first | ((with_reducible refine zbb (N := 3) rfl ?_); (try (refine zid (by rfl) ?_; dsimp only)); refine zob ?hg (N := 3) ?hd (cs := #[.int .u8 a0_0, .int .u8 a0_1, .int .u8 a0_2, .int .u8 a0_3]) (t := 22) ?hr ?_; (case hd => rfl); (case hg => rfl); (case hr => first | (go_simp; done) | (go_simp; rfl)); intro gb445 hg w26 hbox hb; have BK445 := zaa.mk (hbox); have GW445 := zaa.mk ((by rw [hg]; exact (zja (by repeat (first | (with_reducible first | exact HB.out | apply zda | apply zba | apply zca) | exact HB.out))) : w.heap.size ≤ gb445)); have GE445 := zaa.mk ((by rw [hg]; exact (zja (by repeat (first | (with_reducible first | exact HB.out | apply zda | apply zba | apply zca) | exact HB.out))) : w.heap.size ≤ gb445)); replace HB := zaa.mk (zma (by repeat (first | (with_reducible first | exact HB.out | apply zda | apply zba | apply zca) | exact HB.out)) hb); clear hb hbox hg) | ((with_reducible refine zbb (N := 4) rfl ?_); (try (refine zid (by rfl) ?_; dsimp only)); refine zob ?hg (N := 4) ?hd (cs := #[.int .u8 a1_0, .int .u8 a1_1, .int .u8 a1_2]) (t := 23) ?hr ?_; (case hd => rfl); (case hg => rfl); (case hr => first | (go_simp; done) | (go_simp; rfl)); intro gb446 hg w27 hbox hb; have BK446 := zaa.mk (hbox); have GW446 := zaa.mk ((by rw [hg]; exact (zja (by repeat (first | (with_reducible first | exact HB.out | apply zda | apply zba | apply zca | refine zea ?_ GE445.out) | exact HB.out))) : w.heap.size ≤ gb446)); have GE446 := zaa.mk ((by rw [hg]; exact (zja (by repeat (first | (with_reducible first | exact HB.out | apply zda | apply zba | apply zca | refine zea ?_ GE445.out) | exact HB.out))) : w.heap.size ≤ gb446)); replace HB := zaa.mk (zma (by repeat (first | (with_reducible first | exact HB.out | apply zda | apply zba | apply zca | refine zea ?_ GE445.out) | exact HB.out)) hb); have NB445_446 := zaa.mk ((by rw [hg]; exact Nat.ne_of_lt (zbc (g := gb445) (o := .cells #[.int .u8 a0_0, .int .u8 a0_1, .int .u8 a0_2, .int .u8 a0_3] 22 (0, 0)) (by (with_reducible repeat (first | refine zga ?_ _ | refine zha ?_ | refine zfa ?_ _)); exact BK445.out)) : gb445 ≠ gb446)); have NB446_445 := zaa.mk ((by rw [hg]; exact Nat.ne_of_gt (zbc (g := gb445) (o := .cells #[.int .u8 a0_0, .int .u8 a0_1, .int .u8 a0_2, .int .u8 a0_3] 22 (0, 0)) (by (with_reducible repeat (first | refine zga ?_ _ | refine zha ?_ | refine zfa ?_ _)); exact BK445.out)) : gb446 ≠ gb445)); replace BK445 := zaa.mk (zna (g := gb445) (o := .cells #[.int .u8 a0_0, .int .u8 a0_1, .int .u8 a0_2, .int .u8 a0_3] 22 (0, 0)) (by (with_reducible repeat (first | refine zga ?_ _ | refine zha ?_ | refine zfa ?_ _)); exact BK445.out) hb); clear hb hbox hg; have hnb28 := NB445_446.out; have hnc28 := NB446_445.out; have hcz29_0 : w27.cell? ⟨gb445, 0, none⟩ = some (.int .u8 a0_0) := (zla BK445.out 0).trans rfl; have hcz29_1 : w27.cell? ⟨gb445, 1, none⟩ = some (.int .u8 a0_1) := (zla BK445.out 1).trans rfl; have hcz29_2 : w27.cell? ⟨gb445, 2, none⟩ = some (.int .u8 a0_2) := (zla BK445.out 2).trans rfl; have hcz29_3 : w27.cell? ⟨gb445, 3, none⟩ = some (.int .u8 a0_3) := (zla BK445.out 3).trans rfl; have hfz29_0 := zka BK445.out 0; have hfz29_1 := zka BK445.out 1; have hfz29_2 := zka BK445.out 2; have hfz29_3 := zka BK445.out 3) | ((with_reducible refine zxa (f := 4) rfl ?_); refine zhd (some 30) rfl rfl Tryz.func4 (by kernel_rfl) rfl #[.agg #[.int .u8 a0_0, .int .u8 a0_1, .int .u8 a0_2, .int .u8 a0_3]] rfl (by (try simp only [List.map_toArray, List.map_cons, List.map_nil]); first | done | rfl | (simp only [List.length_drop, List.length_take]; rfl)) ?_; (with_reducible refine (zrc.calls a0_0 a0_1 a0_2 a0_3 t447 t450 _ A4.out).mono ?_); rintro e w30 ⟨v448, rfl, ho0, hb⟩; refine ⟨_, rfl, ?_⟩; have HO449 := zaa.mk (Kd.znd ho0 (zja (by repeat (first | (with_reducible first | exact HB.out | apply zda | apply zba | apply zca | refine zea ?_ GE445.out | refine zea ?_ GE446.out) | exact HB.out)))); replace BK445 := zaa.mk (zna (g := gb445) (o := .cells #[.int .u8 a0_0, .int .u8 a0_1, .int .u8 a0_2, .int .u8 a0_3] 22 (0, 0)) (by (with_reducible repeat (first | refine zga ?_ _ | refine zha ?_ | refine zfa ?_ _)); exact BK445.out) hb); replace BK446 := zaa.mk (zna (g := gb446) (o := .cells #[.int .u8 a1_0, .int .u8 a1_1, .int .u8 a1_2] 23 (0, 0)) (by (with_reducible repeat (first | refine zga ?_ _ | refine zha ?_ | refine zfa ?_ _)); exact BK446.out) hb); replace HB := zaa.mk (zma (by repeat (first | (with_reducible first | exact HB.out | apply zda | apply zba | apply zca | refine zea ?_ GE445.out | refine zea ?_ GE446.out) | exact HB.out)) hb); (try clear hb); (try clear hb2); (try clear hk); (try clear hi); (try clear ho0); obtain ⟨Ao31, co31, eo31⟩ := Kd.zfd HO449.out; subst eo31))
                       replace HO449 := zaa.mk (Kd.zsa HO449.out)
                       replace BK445 := zaa.mk (zha BK445.out)
                       replace BK446 := zaa.mk (zha BK446.out)
                       replace HB := zaa.mk (zca HB.out)
                       refine start_ (n := 15) (S := fun w' => w'.cell? ⟨gb446, 0, none⟩ = some (.int .u8 a1_0) ∧ w'.cell? ⟨gb446, 1, none⟩ = some (.int .u8 a1_1) ∧ w'.cell? ⟨gb446, 2, none⟩ = some (.int .u8 a1_2)) (ds := []) #[false, false, false, false, false, false, false, false, false, false, false, false, false, false, false] (by kernel_rfl) rfl rfl ⟨(zla BK446.out 0).trans rfl, (zla BK446.out 1).trans rfl, (zla BK446.out 2).trans rfl⟩ (fun hHeld => ?_); refine with_tabW zia.tab2 zia.bits2 (fun HT_ HW_ => ?_)
                       generalize w30.drew = w32 at HO449 BK445 BK446 HB hHeld ⊢
                       refine zxc (i := 0) (N := some 33) (v := ?_) (a' := ?_) #[true, false, false, false, false, false, false, false, false, false, false, false, false, false, false] rfl rfl (zyb HT_.out (by kernel_rfl)) (fun _ _ _ h => h) (Or.inl ⟨by rfl, ?_⟩) ?_ ?_
                       rotate_left
                       · intro w'
                         go_simp
                         with_reducible rfl
                       rotate_left
                       · simp only [Act.put, List.setIfInBounds_toArray, List.set_cons_zero, List.set_cons_succ, zpb, zzb]
                         rfl
                       refine zxc (i := 1) (N := some 34) (v := ?_) (a' := ?_) #[true, true, false, false, false, false, false, false, false, false, false, false, false, false, false] rfl rfl (zyb HT_.out (by kernel_rfl)) (fun _ _ _ h => h) (Or.inl ⟨by rfl, ?_⟩) ?_ ?_
                       rotate_left
                       · intro w'
                         go_simp
                         with_reducible rfl
                       rotate_left
                       · simp only [Act.put, List.setIfInBounds_toArray, List.set_cons_zero, List.set_cons_succ, zpb, zzb]
                         rfl
                       refine zxc (i := 4) (N := some 37) (v := ?_) (a' := ?_) #[true, true, false, false, true, false, false, false, false, false, false, false, false, false, false] rfl rfl (zyb HT_.out (by kernel_rfl)) (fun _ _ _ h => h) (Or.inl ⟨by rfl, ?_⟩) ?_ ?_
                       rotate_left
                       · intro w'
                         go_simp
                         with_reducible rfl
                       rotate_left
                       · simp only [Act.put, List.setIfInBounds_toArray, List.set_cons_zero, List.set_cons_succ, zpb, zzb]
                         rfl
                       refine zxc (i := 8) (N := some 41) (v := ?_) (a' := ?_) #[true, true, false, false, true, false, false, false, true, false, false, false, false, false, false] rfl rfl (zyb HT_.out (by kernel_rfl)) (fun _ _ _ h => h) (Or.inl ⟨by rfl, ?_⟩) ?_ ?_
                       rotate_left
                       · intro w'
                         go_simp
                         with_reducible rfl
                       rotate_left
                       · simp only [Act.put, List.setIfInBounds_toArray, List.set_cons_zero, List.set_cons_succ, zpb, zzb]
                         rfl
                       refine zxc (i := 9) (N := some 42) (v := ?_) (a' := ?_) #[true, true, false, false, true, false, false, false, true, true, false, false, false, false, false] rfl rfl (zyb HT_.out (by kernel_rfl)) (fun _ _ _ h => h) (Or.inl ⟨by rfl, ?_⟩) ?_ ?_
                       rotate_left
                       · intro w'
                         go_simp
                         with_reducible rfl
                       rotate_left
                       · simp only [Act.put, List.setIfInBounds_toArray, List.set_cons_zero, List.set_cons_succ, zpb, zzb]
                         rfl
                       refine zxc (i := 10) (N := some 43) (v := ?_) (a' := ?_) #[true, true, false, false, true, false, false, false, true, true, true, false, false, false, false] rfl rfl (zyb HT_.out (by kernel_rfl)) (fun _ _ _ h => h) (Or.inl ⟨by rfl, ?_⟩) ?_ ?_
                       rotate_left
                       · intro w'
                         go_simp
                         with_reducible rfl
                       rotate_left
                       · simp only [Act.put, List.setIfInBounds_toArray, List.set_cons_zero, List.set_cons_succ, zpb, zzb]
                         rfl
                       refine take_ (i := 5) (N := some 38) (v := ?_) (a' := ?_) #[true, true, false, false, true, true, false, false, true, true, true, false, false, false, false] rfl rfl (zge HT_.out HW_.out (by kernel_rfl)) (fun _ _ _ h => h) (Or.inl ⟨by rfl, ?_⟩) hHeld ?_ ?_
                       rotate_left
                       · rintro w' ⟨s0, s1, s2⟩
                         go_simp
                         with_reducible rfl
                       rotate_left
                       · simp only [Act.put, List.setIfInBounds_toArray, List.set_cons_zero, List.set_cons_succ, zpb, zzb]
                         rfl
                       refine zxc (i := 6) (N := some 39) (v := ?_) (a' := ?_) #[true, true, false, false, true, true, true, false, true, true, true, false, false, false, false] rfl rfl (zyb HT_.out (by kernel_rfl)) (fun _ _ _ h => h) (Or.inl ⟨by rfl, ?_⟩) ?_ ?_
                       rotate_left
                       · intro w'
                         go_simp
                         with_reducible rfl
                       rotate_left
                       · simp only [Act.put, List.setIfInBounds_toArray, List.set_cons_zero, List.set_cons_succ, zpb, zzb]
                         rfl
                       refine zxc (i := 7) (N := some 40) (v := ?_) (a' := ?_) #[true, true, false, false, true, true, true, true, true, true, true, false, false, false, false] rfl rfl (zyb HT_.out (by kernel_rfl)) (fun _ _ _ h => h) (Or.inl ⟨by rfl, ?_⟩) ?_ ?_
                       rotate_left
                       · intro w'
                         go_simp
                         with_reducible rfl
                       rotate_left
                       · simp only [Act.put, List.setIfInBounds_toArray, List.set_cons_zero, List.set_cons_succ, zpb, zzb]
                         rfl
                       refine join_ (σ := Value × Nat) 3 #[true, true, true, true, true, true, true, true, true, true, true, true, false, false, false] (fun s_ => [(35, s_.1), (9, .pointer (some ⟨s_.2, 0, none⟩)), (36, .agg #[.int .i64 t450, s_.1])]) (fun s_ w' => (w'.cell? ⟨gb446, 0, none⟩ = some (.int .u8 a1_0) ∧ w'.cell? ⟨gb446, 1, none⟩ = some (.int .u8 a1_1) ∧ w'.cell? ⟨gb446, 2, none⟩ = some (.int .u8 a1_2)) ∧ (Kd.R (Kd.int .i64) 3 w' w.heap.size (fun k_ => some k_ ≠ (s_.1 : Value).ownBlock) (.slice Ao31 t447.length co31) t447) ∧ (Kd.R (Kd.int .i64) 3 w' w.heap.size (fun k_ => some k_ ≠ (.slice Ao31 t447.length co31 : Value).ownBlock) s_.1 t451) ∧ (w'.heap[gb445]? = some (.cells #[.int .u8 a0_0, .int .u8 a0_1, .int .u8 a0_2, .int .u8 a0_3] 22 (0, 0))) ∧ (w'.heap[gb446]? = some (.cells #[.int .u8 a1_0, .int .u8 a1_1, .int .u8 a1_2] 23 (0, 0))) ∧ (w'.heap[s_.2]? = some (.cells #[.int .i64 0, .slice none 0 0] 29 (0, 0))) ∧ (w.heap.size ≤ s_.2) ∧ (w.heap.size ≤ s_.2) ∧ (gb445 ≠ s_.2) ∧ (s_.2 ≠ gb445) ∧ (gb446 ≠ s_.2) ∧ (s_.2 ≠ gb446) ∧ (Below w.heap.size w w')) ?_ ?_
                       rotate_left
                       · intro hCont
                         refine two_ (i := 2) (j := 11) (Ni := some 35) (Nj := some 9) #[true, true, true, false, true, true, true, true, true, true, true, false, false, false, false] #[true, true, false, false, true, true, true, true, true, true, true, true, false, false, false] rfl rfl rfl rfl (two_of HT_.out (by kernel_rfl)) (by decide) (by decide) (fun K hK => ?_) (fun K hK => ?_)
                         · skip
                           refine goes_ Tryz.func5 (by kernel_rfl) rfl #[.slice Ao31 t447.length co31] (by rfl) rfl rfl (by (try simp only [List.map_toArray, List.map_cons, List.map_nil]); first | done | rfl | (simp only [List.length_drop, List.length_take]; rfl)) ?_
                           with_reducible refine (zdc.calls _ _ t447 t451 _ ?side1 ?side2 A5.out).mono ?_
                           (case side1 => repeat (first | exact (Kd.zgb HO449.out).2.2 | (with_reducible refine Kd.zrb ?_ _) | (with_reducible refine Kd.zqb ?_ _) | (with_reducible refine Kd.zmc ?_)))
                           (case side2 => exact (Kd.zgb HO449.out).2.1)
                           rintro e w33 ⟨v452, rfl, ho0, hb⟩
                           refine ⟨_, rfl, ?_⟩
                           have HO453 := zaa.mk (Kd.znd (Kd.R_new' ho0 (Kd.R_lt (by (with_reducible repeat (first | apply Kd.zqa | apply Kd.zpa | apply Kd.zsa)); exact HO449.out))) (zja (by repeat (first | (with_reducible first | exact HB.out | apply zda | apply zba | apply zca | refine zea ?_ GE445.out | refine zea ?_ GE446.out) | exact HB.out))))
                           replace HO449 := zaa.mk (Kd.R_elder' (by (with_reducible repeat (first | apply Kd.zqa | apply Kd.zpa | apply Kd.zsa)); exact HO449.out) (Kd.zxd ho0) hb)
                           replace BK445 := zaa.mk (zna (g := gb445) (o := .cells #[.int .u8 a0_0, .int .u8 a0_1, .int .u8 a0_2, .int .u8 a0_3] 22 (0, 0)) (by (with_reducible repeat (first | refine zga ?_ _ | refine zha ?_ | refine zfa ?_ _)); exact BK445.out) hb)
                           replace BK446 := zaa.mk (zna (g := gb446) (o := .cells #[.int .u8 a1_0, .int .u8 a1_1, .int .u8 a1_2] 23 (0, 0)) (by (with_reducible repeat (first | refine zga ?_ _ | refine zha ?_ | refine zfa ?_ _)); exact BK446.out) hb)
                           replace HB := zaa.mk (zma (by repeat (first | (with_reducible first | exact HB.out | apply zda | apply zba | apply zca | refine zea ?_ GE445.out | refine zea ?_ GE446.out) | exact HB.out)) hb)
                           (try clear hb)
                           (try clear hb2)
                           (try clear hk)
                           (try clear hi)
                           (try clear ho0)
                           obtain ⟨Ao34, co34, eo34⟩ := Kd.zfd HO453.out
                           (first | subst eo34 | (injection eo34 with f1_ f2_ f3_; have f4_ := f1_.symm; have f5_ := f3_.symm; clear f1_ f2_ f3_; subst f4_; subst f5_))
                           refine hK.out _ _ ⟨(zla BK446.out 0).trans rfl, (zla BK446.out 1).trans rfl, (zla BK446.out 2).trans rfl⟩ (fun hHeld => ?_)
                           clear hK K
                           refine norm_ (a' := ?_) ?_ ?_
                           rotate_left
                           · show Act.put _ (some 35) _ = _
                             simp only [Act.put, List.setIfInBounds_toArray, List.set_cons_zero, List.set_cons_succ, zpb, zzb]
                             rfl
                           refine zxc (i := 3) (N := some 36) (v := ?_) (a' := ?_) #[true, true, true, true, true, true, true, true, true, true, true, false, false, false, false] rfl rfl (zyb HT_.out (by kernel_rfl)) (fun _ _ _ h => h) (Or.inl ⟨by rfl, ?_⟩) ?_ ?_
                           rotate_left
                           · intro w'
                             go_simp
                             with_reducible rfl
                           rotate_left
                           · simp only [Act.put, List.setIfInBounds_toArray, List.set_cons_zero, List.set_cons_succ, zpb, zzb]
                             rfl
                           refine one_ (i := 11) (N := some 9) #[true, true, true, true, true, true, true, true, true, true, true, true, false, false, false] rfl rfl (one_of HT_.out (by kernel_rfl)) (by decide) (fun K hK => ?_)
                           refine box_step ?hg (N := 9) ?hd (cs := #[.int .i64 0, .slice none 0 0]) (t := 29) ?hr ?_; (case hd => rfl); (case hg => rfl); (case hr => first | (go_simp; done) | (go_simp; rfl))
                           intro gb454 hg w35 hbox hb
                           replace HO449 := zaa.mk (Kd.zcb (by (with_reducible repeat (first | apply Kd.zqa | apply Kd.zpa | apply Kd.zsa)); exact HO449.out) hb)
                           replace HO453 := zaa.mk (Kd.zcb (by (with_reducible repeat (first | apply Kd.zqa | apply Kd.zpa | apply Kd.zsa)); exact HO453.out) hb)
                           have BK454 := zaa.mk (hbox)
                           have GW454 := zaa.mk ((by rw [hg]; exact (zja (by repeat (first | (with_reducible first | exact HB.out | apply zda | apply zba | apply zca | refine zea ?_ GE445.out | refine zea ?_ GE446.out) | exact HB.out))) : w.heap.size ≤ gb454))
                           have GE454 := zaa.mk ((by rw [hg]; exact (zja (by repeat (first | (with_reducible first | exact HB.out | apply zda | apply zba | apply zca | refine zea ?_ GE445.out | refine zea ?_ GE446.out) | exact HB.out))) : w.heap.size ≤ gb454))
                           replace HB := zaa.mk (zma (by repeat (first | (with_reducible first | exact HB.out | apply zda | apply zba | apply zca | refine zea ?_ GE445.out | refine zea ?_ GE446.out) | exact HB.out)) hb)
                           have NB445_454 := zaa.mk ((by rw [hg]; exact Nat.ne_of_lt (zbc (g := gb445) (o := .cells #[.int .u8 a0_0, .int .u8 a0_1, .int .u8 a0_2, .int .u8 a0_3] 22 (0, 0)) (by (with_reducible repeat (first | refine zga ?_ _ | refine zha ?_ | refine zfa ?_ _)); exact BK445.out)) : gb445 ≠ gb454))
                           have NB454_445 := zaa.mk ((by rw [hg]; exact Nat.ne_of_gt (zbc (g := gb445) (o := .cells #[.int .u8 a0_0, .int .u8 a0_1, .int .u8 a0_2, .int .u8 a0_3] 22 (0, 0)) (by (with_reducible repeat (first | refine zga ?_ _ | refine zha ?_ | refine zfa ?_ _)); exact BK445.out)) : gb454 ≠ gb445))
                           replace BK445 := zaa.mk (zna (g := gb445) (o := .cells #[.int .u8 a0_0, .int .u8 a0_1, .int .u8 a0_2, .int .u8 a0_3] 22 (0, 0)) (by (with_reducible repeat (first | refine zga ?_ _ | refine zha ?_ | refine zfa ?_ _)); exact BK445.out) hb)
                           have NB446_454 := zaa.mk ((by rw [hg]; exact Nat.ne_of_lt (zbc (g := gb446) (o := .cells #[.int .u8 a1_0, .int .u8 a1_1, .int .u8 a1_2] 23 (0, 0)) (by (with_reducible repeat (first | refine zga ?_ _ | refine zha ?_ | refine zfa ?_ _)); exact BK446.out)) : gb446 ≠ gb454))
                           have NB454_446 := zaa.mk ((by rw [hg]; exact Nat.ne_of_gt (zbc (g := gb446) (o := .cells #[.int .u8 a1_0, .int .u8 a1_1, .int .u8 a1_2] 23 (0, 0)) (by (with_reducible repeat (first | refine zga ?_ _ | refine zha ?_ | refine zfa ?_ _)); exact BK446.out)) : gb454 ≠ gb446))
                           replace BK446 := zaa.mk (zna (g := gb446) (o := .cells #[.int .u8 a1_0, .int .u8 a1_1, .int .u8 a1_2] 23 (0, 0)) (by (with_reducible repeat (first | refine zga ?_ _ | refine zha ?_ | refine zfa ?_ _)); exact BK446.out) hb)
                           clear hb hbox hg
                           refine hK.out _ _ ⟨(zla BK446.out 0).trans rfl, (zla BK446.out 1).trans rfl, (zla BK446.out 2).trans rfl⟩ (fun hHeld => ?_)
                           clear hK K
                           refine norm_ (a' := ?_) ?_ ?_
                           rotate_left
                           · show Act.put _ (some 9) _ = _
                             simp only [Act.put, List.setIfInBounds_toArray, List.set_cons_zero, List.set_cons_succ, zpb, zzb]
                             rfl
                           exact norm_ (by simp only [putAll, Act.put, List.setIfInBounds_toArray, List.set_cons_zero, List.set_cons_succ]) (hCont (.slice Ao34 t451.length co34, gb454) _ ⟨hHeld, (by (with_reducible repeat (first | apply Kd.zqa | apply Kd.zpa | apply Kd.zsa)); exact Kd.zsd HO449.out (fun _ hk => hk.2)), (by (with_reducible repeat (first | apply Kd.zqa | apply Kd.zpa | apply Kd.zsa)); exact Kd.zsd HO453.out (fun _ hk => hk.2)), (by (with_reducible repeat (first | refine zga ?_ _ | refine zha ?_ | refine zfa ?_ _)); exact BK445.out), (by (with_reducible repeat (first | refine zga ?_ _ | refine zha ?_ | refine zfa ?_ _)); exact BK446.out), (by (with_reducible repeat (first | refine zga ?_ _ | refine zha ?_ | refine zfa ?_ _)); exact BK454.out), GW454.out, GE454.out, NB445_454.out, NB454_445.out, NB446_454.out, NB454_446.out, (by repeat (first | (with_reducible first | exact HB.out | apply zda | apply zba | apply zca | refine zea ?_ GE445.out | refine zea ?_ GE446.out | refine zea ?_ GE454.out) | exact HB.out))⟩)
                         · skip
                           refine box_step ?hg (N := 9) ?hd (cs := #[.int .i64 0, .slice none 0 0]) (t := 29) ?hr ?_; (case hd => rfl); (case hg => rfl); (case hr => first | (go_simp; done) | (go_simp; rfl))
                           intro gb454 hg w33 hbox hb
                           replace HO449 := zaa.mk (Kd.zcb (by (with_reducible repeat (first | apply Kd.zqa | apply Kd.zpa | apply Kd.zsa)); exact HO449.out) hb)
                           have BK454 := zaa.mk (hbox)
                           have GW454 := zaa.mk ((by rw [hg]; exact (zja (by repeat (first | (with_reducible first | exact HB.out | apply zda | apply zba | apply zca | refine zea ?_ GE445.out | refine zea ?_ GE446.out) | exact HB.out))) : w.heap.size ≤ gb454))
                           have GE454 := zaa.mk ((by rw [hg]; exact (zja (by repeat (first | (with_reducible first | exact HB.out | apply zda | apply zba | apply zca | refine zea ?_ GE445.out | refine zea ?_ GE446.out) | exact HB.out))) : w.heap.size ≤ gb454))
                           replace HB := zaa.mk (zma (by repeat (first | (with_reducible first | exact HB.out | apply zda | apply zba | apply zca | refine zea ?_ GE445.out | refine zea ?_ GE446.out) | exact HB.out)) hb)
                           have NB445_454 := zaa.mk ((by rw [hg]; exact Nat.ne_of_lt (zbc (g := gb445) (o := .cells #[.int .u8 a0_0, .int .u8 a0_1, .int .u8 a0_2, .int .u8 a0_3] 22 (0, 0)) (by (with_reducible repeat (first | refine zga ?_ _ | refine zha ?_ | refine zfa ?_ _)); exact BK445.out)) : gb445 ≠ gb454))
                           have NB454_445 := zaa.mk ((by rw [hg]; exact Nat.ne_of_gt (zbc (g := gb445) (o := .cells #[.int .u8 a0_0, .int .u8 a0_1, .int .u8 a0_2, .int .u8 a0_3] 22 (0, 0)) (by (with_reducible repeat (first | refine zga ?_ _ | refine zha ?_ | refine zfa ?_ _)); exact BK445.out)) : gb454 ≠ gb445))
                           replace BK445 := zaa.mk (zna (g := gb445) (o := .cells #[.int .u8 a0_0, .int .u8 a0_1, .int .u8 a0_2, .int .u8 a0_3] 22 (0, 0)) (by (with_reducible repeat (first | refine zga ?_ _ | refine zha ?_ | refine zfa ?_ _)); exact BK445.out) hb)
                           have NB446_454 := zaa.mk ((by rw [hg]; exact Nat.ne_of_lt (zbc (g := gb446) (o := .cells #[.int .u8 a1_0, .int .u8 a1_1, .int .u8 a1_2] 23 (0, 0)) (by (with_reducible repeat (first | refine zga ?_ _ | refine zha ?_ | refine zfa ?_ _)); exact BK446.out)) : gb446 ≠ gb454))
                           have NB454_446 := zaa.mk ((by rw [hg]; exact Nat.ne_of_gt (zbc (g := gb446) (o := .cells #[.int .u8 a1_0, .int .u8 a1_1, .int .u8 a1_2] 23 (0, 0)) (by (with_reducible repeat (first | refine zga ?_ _ | refine zha ?_ | refine zfa ?_ _)); exact BK446.out)) : gb454 ≠ gb446))
                           replace BK446 := zaa.mk (zna (g := gb446) (o := .cells #[.int .u8 a1_0, .int .u8 a1_1, .int .u8 a1_2] 23 (0, 0)) (by (with_reducible repeat (first | refine zga ?_ _ | refine zha ?_ | refine zfa ?_ _)); exact BK446.out) hb)
                           clear hb hbox hg
                           refine hK.out _ _ ⟨(zla BK446.out 0).trans rfl, (zla BK446.out 1).trans rfl, (zla BK446.out 2).trans rfl⟩ (fun hHeld => ?_)
                           clear hK K
                           refine norm_ (a' := ?_) ?_ ?_
                           rotate_left
                           · show Act.put _ (some 9) _ = _
                             simp only [Act.put, List.setIfInBounds_toArray, List.set_cons_zero, List.set_cons_succ, zpb, zzb]
                             rfl
                           refine one_ (i := 2) (N := some 35) #[true, true, true, false, true, true, true, true, true, true, true, true, false, false, false] rfl rfl (one_of HT_.out (by kernel_rfl)) (by decide) (fun K hK => ?_)
                           refine goes_ Tryz.func5 (by kernel_rfl) rfl #[.slice Ao31 t447.length co31] (by rfl) rfl rfl (by (try simp only [List.map_toArray, List.map_cons, List.map_nil]); first | done | rfl | (simp only [List.length_drop, List.length_take]; rfl)) ?_
                           with_reducible refine (zdc.calls _ _ t447 t451 _ ?side1 ?side2 A5.out).mono ?_
                           (case side1 => repeat (first | exact (Kd.zgb HO449.out).2.2 | (with_reducible refine Kd.zrb ?_ _) | (with_reducible refine Kd.zqb ?_ _) | (with_reducible refine Kd.zmc ?_)))
                           (case side2 => exact (Kd.zgb HO449.out).2.1)
                           rintro e w34 ⟨v452, rfl, ho0, hb⟩
                           refine ⟨_, rfl, ?_⟩
                           have HO453 := zaa.mk (Kd.znd (Kd.R_new' ho0 (Kd.R_lt (by (with_reducible repeat (first | apply Kd.zqa | apply Kd.zpa | apply Kd.zsa)); exact HO449.out))) (zja (by repeat (first | (with_reducible first | exact HB.out | apply zda | apply zba | apply zca | refine zea ?_ GE445.out | refine zea ?_ GE446.out | refine zea ?_ GE454.out) | exact HB.out))))
                           replace HO449 := zaa.mk (Kd.R_elder' (by (with_reducible repeat (first | apply Kd.zqa | apply Kd.zpa | apply Kd.zsa)); exact HO449.out) (Kd.zxd ho0) hb)
                           replace BK445 := zaa.mk (zna (g := gb445) (o := .cells #[.int .u8 a0_0, .int .u8 a0_1, .int .u8 a0_2, .int .u8 a0_3] 22 (0, 0)) (by (with_reducible repeat (first | refine zga ?_ _ | refine zha ?_ | refine zfa ?_ _)); exact BK445.out) hb)
                           replace BK446 := zaa.mk (zna (g := gb446) (o := .cells #[.int .u8 a1_0, .int .u8 a1_1, .int .u8 a1_2] 23 (0, 0)) (by (with_reducible repeat (first | refine zga ?_ _ | refine zha ?_ | refine zfa ?_ _)); exact BK446.out) hb)
                           replace BK454 := zaa.mk (zna (g := gb454) (o := .cells #[.int .i64 0, .slice none 0 0] 29 (0, 0)) (by (with_reducible repeat (first | refine zga ?_ _ | refine zha ?_ | refine zfa ?_ _)); exact BK454.out) hb)
                           replace HB := zaa.mk (zma (by repeat (first | (with_reducible first | exact HB.out | apply zda | apply zba | apply zca | refine zea ?_ GE445.out | refine zea ?_ GE446.out | refine zea ?_ GE454.out) | exact HB.out)) hb)
                           (try clear hb)
                           (try clear hb2)
                           (try clear hk)
                           (try clear hi)
                           (try clear ho0)
                           obtain ⟨Ao35, co35, eo35⟩ := Kd.zfd HO453.out
                           (first | subst eo35 | (injection eo35 with f1_ f2_ f3_; have f4_ := f1_.symm; have f5_ := f3_.symm; clear f1_ f2_ f3_; subst f4_; subst f5_))
                           refine hK.out _ _ ⟨(zla BK446.out 0).trans rfl, (zla BK446.out 1).trans rfl, (zla BK446.out 2).trans rfl⟩ (fun hHeld => ?_)
                           clear hK K
                           refine norm_ (a' := ?_) ?_ ?_
                           rotate_left
                           · show Act.put _ (some 35) _ = _
                             simp only [Act.put, List.setIfInBounds_toArray, List.set_cons_zero, List.set_cons_succ, zpb, zzb]
                             rfl
                           refine zxc (i := 3) (N := some 36) (v := ?_) (a' := ?_) #[true, true, true, true, true, true, true, true, true, true, true, true, false, false, false] rfl rfl (zyb HT_.out (by kernel_rfl)) (fun _ _ _ h => h) (Or.inl ⟨by rfl, ?_⟩) ?_ ?_
                           rotate_left
                           · intro w'
                             go_simp
                             with_reducible rfl
                           rotate_left
                           · simp only [Act.put, List.setIfInBounds_toArray, List.set_cons_zero, List.set_cons_succ, zpb, zzb]
                             rfl
                           exact norm_ (by simp only [putAll, Act.put, List.setIfInBounds_toArray, List.set_cons_zero, List.set_cons_succ]) (hCont (.slice Ao35 t451.length co35, gb454) _ ⟨hHeld, (by (with_reducible repeat (first | apply Kd.zqa | apply Kd.zpa | apply Kd.zsa)); exact Kd.zsd HO449.out (fun _ hk => hk.2)), (by (with_reducible repeat (first | apply Kd.zqa | apply Kd.zpa | apply Kd.zsa)); exact Kd.zsd HO453.out (fun _ hk => hk.2)), (by (with_reducible repeat (first | refine zga ?_ _ | refine zha ?_ | refine zfa ?_ _)); exact BK445.out), (by (with_reducible repeat (first | refine zga ?_ _ | refine zha ?_ | refine zfa ?_ _)); exact BK446.out), (by (with_reducible repeat (first | refine zga ?_ _ | refine zha ?_ | refine zfa ?_ _)); exact BK454.out), GW454.out, GE454.out, NB445_454.out, NB454_445.out, NB446_454.out, NB454_446.out, (by repeat (first | (with_reducible first | exact HB.out | apply zda | apply zba | apply zca | refine zea ?_ GE445.out | refine zea ?_ GE446.out | refine zea ?_ GE454.out) | exact HB.out))⟩)
                       rintro ⟨v452, gb454⟩ w36 ⟨hS_, h0_, h1_, h2_, h3_, h4_, h5_, h6_, h7_, h8_, h9_, h10_, h11_⟩
                       have n0_ : zaa (Kd.R (Kd.int .i64) 3 w36 w.heap.size (fun k_ => some k_ ≠ (v452 : Value).ownBlock) (.slice Ao31 t447.length co31) t447) := ⟨h0_⟩
                       have n1_ : zaa (Kd.R (Kd.int .i64) 3 w36 w.heap.size (fun k_ => some k_ ≠ (.slice Ao31 t447.length co31 : Value).ownBlock) v452 t451) := ⟨h1_⟩
                       have n2_ : zaa (w36.heap[gb445]? = some (.cells #[.int .u8 a0_0, .int .u8 a0_1, .int .u8 a0_2, .int .u8 a0_3] 22 (0, 0))) := ⟨h2_⟩
                       have n3_ : zaa (w36.heap[gb446]? = some (.cells #[.int .u8 a1_0, .int .u8 a1_1, .int .u8 a1_2] 23 (0, 0))) := ⟨h3_⟩
                       have n4_ : zaa (w36.heap[gb454]? = some (.cells #[.int .i64 0, .slice none 0 0] 29 (0, 0))) := ⟨h4_⟩
                       have n5_ : zaa (w.heap.size ≤ gb454) := ⟨h5_⟩
                       have n6_ : zaa (w.heap.size ≤ gb454) := ⟨h6_⟩
                       have n7_ : zaa (gb445 ≠ gb454) := ⟨h7_⟩
                       have n8_ : zaa (gb454 ≠ gb445) := ⟨h8_⟩
                       have n9_ : zaa (gb446 ≠ gb454) := ⟨h9_⟩
                       have n10_ : zaa (gb454 ≠ gb446) := ⟨h10_⟩
                       have n11_ : zaa (Below w.heap.size w w36) := ⟨h11_⟩
                       clear HO449
                       clear BK445
                       clear BK446
                       clear HB
                       clear h0_ h1_ h2_ h3_ h4_ h5_ h6_ h7_ h8_ h9_ h10_ h11_
                       have HO449 := n0_
                       have HO453 := n1_
                       have BK445 := n2_
                       have BK446 := n3_
                       have BK454 := n4_
                       have GW454 := n5_
                       have GE454 := n6_
                       have NB445_454 := n7_
                       have NB454_445 := n8_
                       have NB446_454 := n9_
                       have NB454_446 := n10_
                       have HB := n11_
                       clear n0_ n1_ n2_ n3_ n4_ n5_ n6_ n7_ n8_ n9_ n10_ n11_
                       have hHeld : w36.cell? ⟨gb446, 0, none⟩ = some (.int .u8 a1_0) ∧ w36.cell? ⟨gb446, 1, none⟩ = some (.int .u8 a1_1) ∧ w36.cell? ⟨gb446, 2, none⟩ = some (.int .u8 a1_2) := hS_
                       obtain ⟨Ao37, co37, eo37⟩ := Kd.zfd HO453.out
                       (first | subst eo37 | (injection eo37 with f1_ f2_ f3_; have f4_ := f1_.symm; have f5_ := f3_.symm; clear f1_ f2_ f3_; subst f4_; subst f5_))
                       refine norm_ (a' := ?_) ?_ ?_
                       rotate_left
                       · simp only [putAll, Act.put, List.setIfInBounds_toArray, List.set_cons_zero, List.set_cons_succ]
                         rfl
                       refine one_ (i := 12) (N := none) #[true, true, true, true, true, true, true, true, true, true, true, true, true, false, false] rfl rfl (one_of HT_.out (by kernel_rfl)) (by decide) (fun K hK => ?_)
                       have hs38 : w36.cell? ⟨gb454, 0, none⟩ = some (.int .i64 0) := (zla BK454.out 0).trans rfl
                       have hfs38 := zka BK454.out 0
                       have hns38_0 := NB445_454.out
                       have hns38_1 := NB446_454.out
                       have hms38_0 := NB454_445.out
                       have hms38_1 := NB454_446.out
                       have hs39 : w36.cell? ⟨gb454, 1, none⟩ = some (.slice none 0 0) := (zla BK454.out 1).trans rfl
                       have hfs39 := zka BK454.out 1
                       have hns39_0 := NB445_454.out
                       have hns39_1 := NB446_454.out
                       have hms39_0 := NB454_445.out
                       have hms39_1 := NB454_446.out
                       refine skip_ (w1 := ?_) (by rfl) rfl ?_ ?_
                       rotate_left
                       · go_simp
                         rfl
                       refine hK.out _ _ ⟨((cell_far (p := ⟨gb454, _, none⟩) NB446_454.out _).trans (((cell_far (p := ⟨gb454, _, none⟩) NB446_454.out _).trans (hHeld.1)))), ((cell_far (p := ⟨gb454, _, none⟩) NB446_454.out _).trans (((cell_far (p := ⟨gb454, _, none⟩) NB446_454.out _).trans (hHeld.2.1)))), ((cell_far (p := ⟨gb454, _, none⟩) NB446_454.out _).trans (((cell_far (p := ⟨gb454, _, none⟩) NB446_454.out _).trans (hHeld.2.2))))⟩ (fun hHeld => ?_)
                       clear hK K
                       refine zxc (i := 13) (N := some 10) (v := ?_) (a' := ?_) #[true, true, true, true, true, true, true, true, true, true, true, true, true, true, false] rfl rfl (zyb HT_.out (by kernel_rfl)) (fun _ _ _ h => h) (Or.inl ⟨by rfl, ?_⟩) ?_ ?_
                       rotate_left
                       · intro w'
                         go_simp
                         with_reducible rfl
                       rotate_left
                       · simp only [Act.put, List.setIfInBounds_toArray, List.set_cons_zero, List.set_cons_succ, zpb, zzb]
                         rfl
                       refine zxc (i := 14) (N := some 11) (v := ?_) (a' := ?_) #[true, true, true, true, true, true, true, true, true, true, true, true, true, true, true] rfl rfl (zyb HT_.out (by kernel_rfl)) (fun _ _ _ h => h) (Or.inl ⟨by rfl, ?_⟩) ?_ ?_
                       rotate_left
                       · intro w'
                         go_simp
                         with_reducible rfl
                       rotate_left
                       · simp only [Act.put, List.setIfInBounds_toArray, List.set_cons_zero, List.set_cons_succ, zpb, zzb]
                         rfl
                       refine done_ (done_of HT_.out (by kernel_rfl)) ?_
                       have hnb40 := NB446_454.out
                       have hnc40 := NB454_446.out
                       have hcz41_0 : w36.cell? ⟨gb446, 0, none⟩ = some (.int .u8 a1_0) := (zla BK446.out 0).trans rfl
                       have hcz41_1 : w36.cell? ⟨gb446, 1, none⟩ = some (.int .u8 a1_1) := (zla BK446.out 1).trans rfl
                       have hcz41_2 : w36.cell? ⟨gb446, 2, none⟩ = some (.int .u8 a1_2) := (zla BK446.out 2).trans rfl
                       have hfz41_0 := zka BK446.out 0
                       have hfz41_1 := zka BK446.out 1
                       have hfz41_2 := zka BK446.out 2
                       try go_wp2_with (first | ((with_reducible refine zbb (N := 55) rfl ?_); (try (refine zid (by rfl) ?_; dsimp only)); refine Kd.R_lit k32 _ 32 ?hg (N := 55) ?hd (xs := ([(⟨Int.tmod (wrap64 (a1_0)) 3, wrap64 (1 + (Int.tmod (wrap64 (a1_1)) 4)), Int.tmod (wrap64 (a1_2)) 4⟩ : S32)] : List (S32))) (inner := [.int .i64 (Int.tmod (wrap64 (a1_0)) 3), .int .i64 (wrap64 (1 + (Int.tmod (wrap64 (a1_1)) 4))), .int .i64 (Int.tmod (wrap64 (a1_2)) 4)]) (ok := fun _ => True) (okp := fun _ => True) ?hr ?hp (fun _ hk => hk) trivial (Below.refl _ _) (Nat.le_refl _) (by simp) ?_; (case hd => rfl); (case hg => rfl); (case hr => first | (go_simp; done) | (go_simp; rfl)); (case hp => exact (Reps.c3 (show Kd.M k32 _ _ _ (⟨Int.tmod (wrap64 (a1_0)) 3, wrap64 (1 + (Int.tmod (wrap64 (a1_1)) 4)), Int.tmod (wrap64 (a1_2)) 4⟩ : S32) [.int .i64 (Int.tmod (wrap64 (a1_0)) 3), .int .i64 (wrap64 (1 + (Int.tmod (wrap64 (a1_1)) 4))), .int .i64 (Int.tmod (wrap64 (a1_2)) 4)] from (k32_mkM _ _ _ (⟨Int.tmod (wrap64 (a1_0)) 3, wrap64 (1 + (Int.tmod (wrap64 (a1_1)) 4)), Int.tmod (wrap64 (a1_2)) 4⟩ : S32) )) (Reps.none _ _))); intro v456 w42 ho43 hb hg_ hnew_; clear hg_ hnew_; (first | rw [← Ny455.out] at ho43 | (simp only [Int.reduceToNat] at ho43; rw [← Ny455.out] at ho43)); replace HO449 := zaa.mk (Kd.zcb (by (with_reducible repeat (first | apply Kd.zqa | apply Kd.zpa | apply Kd.zsa)); exact (Kd.zsd (Kd.R_far (p := ⟨gb454, 1, none⟩) (Kd.R_far (p := ⟨gb454, 0, none⟩) (Kd.zpc HO449.out BK454.out (by decide)) (fun _ hk => hk.2) (.int .i64 t450)) (fun _ hk => hk.2) (.slice Ao37 t451.length co37)) (fun _ h_ => h_.1))) hb); replace HO453 := zaa.mk (Kd.zcb (by (with_reducible repeat (first | apply Kd.zqa | apply Kd.zpa | apply Kd.zsa)); exact (Kd.zsd (Kd.R_far (p := ⟨gb454, 1, none⟩) (Kd.R_far (p := ⟨gb454, 0, none⟩) (Kd.zpc HO453.out BK454.out (by decide)) (fun _ hk => hk.2) (.int .i64 t450)) (fun _ hk => hk.2) (.slice Ao37 t451.length co37)) (fun _ h_ => h_.1))) hb); have HO457 := zaa.mk (Kd.znd ho43 (zja (by repeat (first | (with_reducible first | exact HB.out | apply zda | apply zba | apply zca | refine zea ?_ GE445.out | refine zea ?_ GE446.out | refine zea ?_ GE454.out) | exact HB.out)))); replace BK445 := zaa.mk (zna (g := gb445) (o := .cells #[.int .u8 a0_0, .int .u8 a0_1, .int .u8 a0_2, .int .u8 a0_3] 22 (0, 0)) (by (with_reducible repeat (first | refine zga ?_ _ | refine zha ?_ | refine zfa ?_ _)); refine zsc ?_ NB445_454.out _; (with_reducible repeat (first | refine zga ?_ _ | refine zha ?_ | refine zfa ?_ _)); refine zsc ?_ NB445_454.out _; (with_reducible repeat (first | refine zga ?_ _ | refine zha ?_ | refine zfa ?_ _)); exact BK445.out) hb); replace BK446 := zaa.mk (zna (g := gb446) (o := .cells #[.int .u8 a1_0, .int .u8 a1_1, .int .u8 a1_2] 23 (0, 0)) (by (with_reducible repeat (first | refine zga ?_ _ | refine zha ?_ | refine zfa ?_ _)); refine zsc ?_ NB446_454.out _; (with_reducible repeat (first | refine zga ?_ _ | refine zha ?_ | refine zfa ?_ _)); refine zsc ?_ NB446_454.out _; (with_reducible repeat (first | refine zga ?_ _ | refine zha ?_ | refine zfa ?_ _)); exact BK446.out) hb); replace BK454 := zaa.mk (zna (g := gb454) (o := .cells #[.int .i64 t450, .slice Ao37 t451.length co37] 29 (0, 0)) (by (with_reducible repeat (first | refine zga ?_ _ | refine zha ?_ | refine zfa ?_ _)); refine zzc (cs := #[.int .i64 t450, .slice none 0 0]) ?_ 1 _ rfl; (with_reducible repeat (first | refine zga ?_ _ | refine zha ?_ | refine zfa ?_ _)); refine zzc (cs := #[.int .i64 0, .slice none 0 0]) ?_ 0 _ rfl; (with_reducible repeat (first | refine zga ?_ _ | refine zha ?_ | refine zfa ?_ _)); exact BK454.out) hb); replace HB := zaa.mk (zma (by repeat (first | (with_reducible first | exact HB.out | apply zda | apply zba | apply zca | refine zea ?_ GE445.out | refine zea ?_ GE446.out | refine zea ?_ GE454.out) | exact HB.out)) hb); clear hb ho43; have hnb44 := NB454_445.out; have hnc44 := NB445_454.out; have hcz45_0 : w42.cell? ⟨gb454, 0, none⟩ = some (.int .i64 t450) := (zla BK454.out 0).trans rfl; have hcz45_1 : w42.cell? ⟨gb454, 1, none⟩ = some (.slice Ao37 t451.length co37) := (zla BK454.out 1).trans rfl; have hfz45_0 := zka BK454.out 0; have hfz45_1 := zka BK454.out 1) | ((with_reducible refine zxa (f := 6) rfl ?_); refine zhd (some 59) rfl rfl Tryz.func6 (by kernel_rfl) rfl #[.agg #[.int .i64 t450, .slice Ao37 t451.length co37], .slice none 0 0, .int .i64 (Int.tmod (wrap64 (a2)) 8)] rfl (by (try simp only [List.map_toArray, List.map_cons, List.map_nil]); first | done | rfl | (simp only [List.length_drop, List.length_take]; rfl)) ?_; (refine (zhe.calls k t450 (fun k_ => some k_ = (.slice Ao37 t451.length co37 : Value).ownBlock) _ _ t451 (fun k_ => False) _ _ ([] : List (S32)) (Int.tmod (wrap64 (a2)) 8) t458 t461 _ ?side1 ?side2 A6.out).mono ?_); (case side1 => exact Kd.R_V (Kd.R_tight rfl (Kd.zpc (Kd.zpc (Kd.zpc (Kd.zfc (HO453.out) (Kd.zkd HO457.out) (by decide)) BK445.out (by decide)) BK446.out (by decide)) BK454.out (by decide)))); (case side2 => exact Kd.V_nil _ _ _ _ _); rintro e w46 ⟨v459, rfl, ho0, hb⟩; refine ⟨_, rfl, ?_⟩; replace HO457 := zaa.mk (Kd.zcb (by (with_reducible repeat (first | apply Kd.zqa | apply Kd.zpa | apply Kd.zsa)); exact HO457.out) hb); have HO460 := zaa.mk (Kd.znd (Kd.R_new' (Kd.R_new' (Kd.zsd (ok' := fun k_ => True) ho0 (fun _ hk_ => trivial)) (Kd.R_lt (by (with_reducible repeat (first | apply Kd.zqa | apply Kd.zpa | apply Kd.zsa)); exact HO449.out))) (Kd.R_lt (by (with_reducible repeat (first | apply Kd.zqa | apply Kd.zpa | apply Kd.zsa)); exact HO453.out))) (zja (by repeat (first | (with_reducible first | exact HB.out | apply zda | apply zba | apply zca | refine zea ?_ GE445.out | refine zea ?_ GE446.out | refine zea ?_ GE454.out) | exact HB.out)))); replace HO449 := zaa.mk (Kd.R_elder' (by (with_reducible repeat (first | apply Kd.zqa | apply Kd.zpa | apply Kd.zsa)); exact HO449.out) (Kd.zxd ho0) hb); replace HO453 := zaa.mk (Kd.R_elder' (by (with_reducible repeat (first | apply Kd.zqa | apply Kd.zpa | apply Kd.zsa)); exact HO453.out) (Kd.zxd ho0) hb); replace BK445 := zaa.mk (zna (g := gb445) (o := .cells #[.int .u8 a0_0, .int .u8 a0_1, .int .u8 a0_2, .int .u8 a0_3] 22 (0, 0)) (by (with_reducible repeat (first | refine zga ?_ _ | refine zha ?_ | refine zfa ?_ _)); exact BK445.out) hb); replace BK446 := zaa.mk (zna (g := gb446) (o := .cells #[.int .u8 a1_0, .int .u8 a1_1, .int .u8 a1_2] 23 (0, 0)) (by (with_reducible repeat (first | refine zga ?_ _ | refine zha ?_ | refine zfa ?_ _)); exact BK446.out) hb); replace BK454 := zaa.mk (zna (g := gb454) (o := .cells #[.int .i64 t450, .slice Ao37 t451.length co37] 29 (0, 0)) (by (with_reducible repeat (first | refine zga ?_ _ | refine zha ?_ | refine zfa ?_ _)); exact BK454.out) hb); replace HB := zaa.mk (zma (by repeat (first | (with_reducible first | exact HB.out | apply zda | apply zba | apply zca | refine zea ?_ GE445.out | refine zea ?_ GE446.out | refine zea ?_ GE454.out) | exact HB.out)) hb); (try clear hb); (try clear hb2); (try clear hk); (try clear hi); (try clear ho0)))
                       replace HO449 := zaa.mk (Kd.zsa HO449.out)
                       replace HO453 := zaa.mk (Kd.zsa HO453.out)
                       replace HO457 := zaa.mk (Kd.zsa HO457.out)
                       replace HO460 := zaa.mk (Kd.zsa HO460.out)
                       replace BK445 := zaa.mk (zha BK445.out)
                       replace BK446 := zaa.mk (zha BK446.out)
                       replace BK454 := zaa.mk (zha BK454.out)
                       replace HB := zaa.mk (zca HB.out)
                       refine start_ (n := 11) (S := fun w' => w'.cell? ⟨gb454, 0, none⟩ = some (.int .i64 t450) ∧ w'.cell? ⟨gb454, 1, none⟩ = some (.slice Ao37 t451.length co37)) (ds := []) #[false, false, false, false, false, false, false, false, false, false, false] (by kernel_rfl) rfl rfl ⟨(zla BK454.out 0).trans rfl, (zla BK454.out 1).trans rfl⟩ (fun hHeld => ?_); refine with_tabW zia.tab5 zia.bits5 (fun HT_ HW_ => ?_)
                       generalize w46.drew = w47 at HO449 HO453 HO457 HO460 BK445 BK446 BK454 HB hHeld ⊢
                       refine zxc (i := 2) (N := some 65) (v := ?_) (a' := ?_) #[false, false, true, false, false, false, false, false, false, false, false] rfl rfl (zyb HT_.out (by kernel_rfl)) (fun _ _ _ h => h) (Or.inl ⟨by rfl, ?_⟩) ?_ ?_
                       rotate_left
                       · intro w'
                         go_simp
                         with_reducible rfl
                       rotate_left
                       · simp only [Act.put, List.setIfInBounds_toArray, List.set_cons_zero, List.set_cons_succ, zpb, zzb]
                         rfl
                       refine zxc (i := 4) (N := some 67) (v := ?_) (a' := ?_) #[false, false, true, false, true, false, false, false, false, false, false] rfl rfl (zyb HT_.out (by kernel_rfl)) (fun _ _ _ h => h) (Or.inl ⟨by rfl, ?_⟩) ?_ ?_
                       rotate_left
                       · intro w'
                         go_simp
                         with_reducible rfl
                       rotate_left
                       · simp only [Act.put, List.setIfInBounds_toArray, List.set_cons_zero, List.set_cons_succ, zpb, zzb]
                         rfl
                       refine take_ (i := 0) (N := some 63) (v := ?_) (a' := ?_) #[true, false, true, false, true, false, false, false, false, false, false] rfl rfl (zge HT_.out HW_.out (by kernel_rfl)) (fun _ _ _ h => h) (Or.inl ⟨by rfl, ?_⟩) hHeld ?_ ?_
                       rotate_left
                       · rintro w' ⟨s0, s1⟩
                         go_simp
                         with_reducible rfl
                       rotate_left
                       · simp only [Act.put, List.setIfInBounds_toArray, List.set_cons_zero, List.set_cons_succ, zpb, zzb]
                         rfl
                       refine one_ (i := 1) (N := some 64) #[true, true, true, false, true, false, false, false, false, false, false] rfl rfl (one_of HT_.out (by kernel_rfl)) (by decide) (fun K hK => ?_)
                       refine Kd.R_lit_step k32 _ 32 ?hg (N := 64) ?hd (xs := ([] : List (S32))) (inner := []) (ok := fun _ => True) (okp := fun _ => True) ?hr ?hp (fun _ hk => hk) trivial (Below.refl _ _) (Nat.le_refl _) (by simp) ?_; (case hd => rfl); (case hg => rfl); (case hr => first | (go_simp; done) | (go_simp; rfl)); (case hp => exact (Reps.none _ _))
                       intro v463 w48 ho49 hb hg_ hnew_
                       clear hg_ hnew_
                       (first | rw [← Ny462.out] at ho49 | (simp only [Int.reduceToNat] at ho49; rw [← Ny462.out] at ho49))
                       replace HO449 := zaa.mk (Kd.zcb (by (with_reducible repeat (first | apply Kd.zqa | apply Kd.zpa | apply Kd.zsa)); exact HO449.out) hb)
                       replace HO453 := zaa.mk (Kd.zcb (by (with_reducible repeat (first | apply Kd.zqa | apply Kd.zpa | apply Kd.zsa)); exact HO453.out) hb)
                       replace HO460 := zaa.mk (Kd.zcb (by (with_reducible repeat (first | apply Kd.zqa | apply Kd.zpa | apply Kd.zsa)); exact HO460.out) hb)
                       have HO464 := zaa.mk (Kd.znd (Kd.R_new' ho49 (Kd.R_lt (by (with_reducible repeat (first | apply Kd.zqa | apply Kd.zpa | apply Kd.zsa)); exact HO457.out))) (zja (by repeat (first | (with_reducible first | exact HB.out | apply zda | apply zba | apply zca | refine zea ?_ GE445.out | refine zea ?_ GE446.out | refine zea ?_ GE454.out) | exact HB.out))))
                       replace HO457 := zaa.mk (Kd.R_elder' (by (with_reducible repeat (first | apply Kd.zqa | apply Kd.zpa | apply Kd.zsa)); exact HO457.out) (Kd.zxd ho49) hb)
                       replace BK445 := zaa.mk (zna (g := gb445) (o := .cells #[.int .u8 a0_0, .int .u8 a0_1, .int .u8 a0_2, .int .u8 a0_3] 22 (0, 0)) (by (with_reducible repeat (first | refine zga ?_ _ | refine zha ?_ | refine zfa ?_ _)); exact BK445.out) hb)
                       replace BK446 := zaa.mk (zna (g := gb446) (o := .cells #[.int .u8 a1_0, .int .u8 a1_1, .int .u8 a1_2] 23 (0, 0)) (by (with_reducible repeat (first | refine zga ?_ _ | refine zha ?_ | refine zfa ?_ _)); exact BK446.out) hb)
                       replace BK454 := zaa.mk (zna (g := gb454) (o := .cells #[.int .i64 t450, .slice Ao37 t451.length co37] 29 (0, 0)) (by (with_reducible repeat (first | refine zga ?_ _ | refine zha ?_ | refine zfa ?_ _)); exact BK454.out) hb)
                       replace HB := zaa.mk (zma (by repeat (first | (with_reducible first | exact HB.out | apply zda | apply zba | apply zca | refine zea ?_ GE445.out | refine zea ?_ GE446.out | refine zea ?_ GE454.out) | exact HB.out)) hb)
                       clear hb ho49
                       obtain ⟨Ao51, co51, eo51⟩ := Kd.zfd HO457.out
                       (first | subst eo51 | (injection eo51 with f1_ f2_ f3_; have f4_ := f1_.symm; have f5_ := f3_.symm; clear f1_ f2_ f3_; subst f4_; subst f5_))
                       refine hK.out _ _ ⟨(zla BK454.out 0).trans rfl, (zla BK454.out 1).trans rfl⟩ (fun hHeld => ?_)
                       clear hK K
                       refine norm_ (a' := ?_) ?_ ?_
                       rotate_left
                       · show Act.put _ (some 64) _ = _
                         simp only [Act.put, List.setIfInBounds_toArray, List.set_cons_zero, List.set_cons_succ, zpb, zzb]
                         rfl
                       refine one_ (i := 3) (N := some 66) #[true, true, true, true, true, false, false, false, false, false, false] rfl rfl (one_of HT_.out (by kernel_rfl)) (by decide) (fun K hK => ?_)
                       refine Kd.R_append_rows_step k32 (w0 := w) w.heap.size (by rfl) (.tmp 64) (.tmp 65) 33 32 (.agg #[(.int .i64 0), (.int .i64 0), (.int .i64 0)]) 24 rfl Tryz.underlying33 info32 rfl (by decide) (by omega) v463 y462 y455 _ _ _ (fun k_ => some k_ ≠ (.slice Ao51 y455.length co51 : Value).ownBlock) (fun _ => False) rfl rfl ?aO ?aR (fun _ _ h => h) (fun _ h => h.elim) ?aF ?aB ?aS ?aL ?_
                       (case aR => repeat (first | exact (Kd.zgb HO457.out).2.2 | (with_reducible refine Kd.zrb ?_ _) | (with_reducible refine Kd.zqb ?_ _) | (with_reducible refine Kd.zmc ?_)))
                       (case aB => exact (by repeat (first | (with_reducible first | exact HB.out | apply zda | apply zba | apply zca | refine zea ?_ GE445.out | refine zea ?_ GE446.out | refine zea ?_ GE454.out) | exact HB.out)))
                       (case aF => exact (fun k_ hk => Kd.fresh' (Kd.R_lt (by (with_reducible repeat (first | apply Kd.zqa | apply Kd.zpa | apply Kd.zsa)); exact HO457.out)) k_ hk))
                       (case aO => exact (by (with_reducible repeat (first | apply Kd.zqa | apply Kd.zpa | apply Kd.zsa)); exact Kd.zsd HO464.out (fun _ hk => hk.2)))
                       (case aS => exact (zja (by repeat (first | (with_reducible first | exact HB.out | apply zda | apply zba | apply zca | refine zea ?_ GE445.out | refine zea ?_ GE446.out | refine zea ?_ GE454.out) | exact HB.out))))
                       (case aL => have := LMc7.out; omega)
                       intro v466 w50 ho hb hg hat
                       rw [← Ny465.out] at ho
                       replace BK445 := zaa.mk (blk_grown (g := gb445) (o := .cells #[.int .u8 a0_0, .int .u8 a0_1, .int .u8 a0_2, .int .u8 a0_3] 22 (0, 0)) (by (with_reducible repeat (first | refine zga ?_ _ | refine zha ?_ | refine zfa ?_ _)); exact BK445.out) hg (Kd.R_ne HO464.out BK445.out (by decide)))
                       replace BK446 := zaa.mk (blk_grown (g := gb446) (o := .cells #[.int .u8 a1_0, .int .u8 a1_1, .int .u8 a1_2] 23 (0, 0)) (by (with_reducible repeat (first | refine zga ?_ _ | refine zha ?_ | refine zfa ?_ _)); exact BK446.out) hg (Kd.R_ne HO464.out BK446.out (by decide)))
                       replace HO449 := zaa.mk (Kd.R_over' (by (with_reducible repeat (first | apply Kd.zqa | apply Kd.zpa | apply Kd.zsa)); exact HO449.out) (Kd.zkd (by (with_reducible repeat (first | apply Kd.zqa | apply Kd.zpa | apply Kd.zsa)); exact HO464.out)) (by decide) hg)
                       replace HO453 := zaa.mk (Kd.R_over' (by (with_reducible repeat (first | apply Kd.zqa | apply Kd.zpa | apply Kd.zsa)); exact HO453.out) (Kd.zkd (by (with_reducible repeat (first | apply Kd.zqa | apply Kd.zpa | apply Kd.zsa)); exact HO464.out)) (by decide) hg)
                       replace BK454 := zaa.mk (blk_grown (g := gb454) (o := .cells #[.int .i64 t450, .slice Ao37 t451.length co37] 29 (0, 0)) (by (with_reducible repeat (first | refine zga ?_ _ | refine zha ?_ | refine zfa ?_ _)); exact BK454.out) hg (Kd.R_ne HO464.out BK454.out (by decide)))
                       replace HO457 := zaa.mk (Kd.R_after (ok := (fun _ => True)) (by (with_reducible repeat (first | apply Kd.zqa | apply Kd.zpa | apply Kd.zsa)); exact HO457.out) hg hat)
                       replace HO460 := zaa.mk (Kd.R_over' (by (with_reducible repeat (first | apply Kd.zqa | apply Kd.zpa | apply Kd.zsa)); exact HO460.out) (Kd.zkd (by (with_reducible repeat (first | apply Kd.zqa | apply Kd.zpa | apply Kd.zsa)); exact HO464.out)) (by decide) hg)
                       replace HB := zaa.mk (hb)
                       have HO467 := zaa.mk (ho)
                       clear HO464
                       clear ho hb hg hat
                       obtain ⟨Ao52, co52, eo52⟩ := Kd.zfd HO467.out
                       (first | subst eo52 | (injection eo52 with f1_ f2_ f3_; have f4_ := f1_.symm; have f5_ := f3_.symm; clear f1_ f2_ f3_; subst f4_; subst f5_))
                       refine hK.out _ _ ⟨(zla BK454.out 0).trans rfl, (zla BK454.out 1).trans rfl⟩ (fun hHeld => ?_)
                       clear hK K
                       refine norm_ (a' := ?_) ?_ ?_
                       rotate_left
                       · show Act.put _ (some 66) _ = _
                         simp only [Act.put, List.setIfInBounds_toArray, List.set_cons_zero, List.set_cons_succ, zpb, zzb]
                         rfl
                       refine one_ (i := 5) (N := some 68) #[true, true, true, true, true, true, false, false, false, false, false] rfl rfl (one_of HT_.out (by kernel_rfl)) (by decide) (fun K hK => ?_)
                       refine goes_ Tryz.func6 (by kernel_rfl) rfl #[.agg #[.int .i64 t450, .slice Ao37 t451.length co37], .slice Ao52 y465.length co52, .int .i64 (Int.tmod (wrap64 (a2)) 8)] (by rfl) rfl rfl (by (try simp only [List.map_toArray, List.map_cons, List.map_nil]); first | done | rfl | (simp only [List.length_drop, List.length_take]; rfl)) ?_
                       with_reducible refine (zhe.calls k t450 (fun k_ => some k_ = (.slice Ao37 t451.length co37 : Value).ownBlock) _ _ t451 (fun k_ => some k_ = (.slice Ao52 y465.length co52 : Value).ownBlock) _ _ y465 (Int.tmod (wrap64 (a2)) 8) t468 t471 _ ?side1 ?side2 A8.out).mono ?_
                       (case side1 => exact Kd.R_V (Kd.R_tight rfl (Kd.zpc (Kd.zpc (Kd.zpc (Kd.zfc (Kd.zfc (HO453.out) (Kd.zkd HO457.out) (by decide)) (Kd.zkd HO467.out) (by decide)) BK445.out (by decide)) BK446.out (by decide)) BK454.out (by decide))))
                       (case side2 => exact Kd.R_V (Kd.R_tight rfl (Kd.zpc (Kd.zpc (Kd.zpc (Kd.zfc (Kd.zfc (Kd.zfc (HO467.out) (Kd.zkd HO449.out) (by decide)) (Kd.zkd HO453.out) (by decide)) (Kd.zkd HO460.out) (by decide)) BK445.out (by decide)) BK446.out (by decide)) BK454.out (by decide))))
                       rintro e w53 ⟨v469, rfl, ho0, hb⟩
                       refine ⟨_, rfl, ?_⟩
                       replace HO457 := zaa.mk (Kd.zcb (by (with_reducible repeat (first | apply Kd.zqa | apply Kd.zpa | apply Kd.zsa)); exact HO457.out) hb)
                       replace HO467 := zaa.mk (Kd.zcb (by (with_reducible repeat (first | apply Kd.zqa | apply Kd.zpa | apply Kd.zsa)); exact HO467.out) hb)
                       have HO470 := zaa.mk (Kd.znd (Kd.R_new' (Kd.R_new' (Kd.R_new' (Kd.zsd (ok' := fun k_ => True) ho0 (fun _ hk_ => trivial)) (Kd.R_lt (by (with_reducible repeat (first | apply Kd.zqa | apply Kd.zpa | apply Kd.zsa)); exact HO449.out))) (Kd.R_lt (by (with_reducible repeat (first | apply Kd.zqa | apply Kd.zpa | apply Kd.zsa)); exact HO453.out))) (Kd.R_lt (by (with_reducible repeat (first | apply Kd.zqa | apply Kd.zpa | apply Kd.zsa)); exact HO460.out))) (zja (by repeat (first | (with_reducible first | exact HB.out | apply zda | apply zba | apply zca | refine zea ?_ GE445.out | refine zea ?_ GE446.out | refine zea ?_ GE454.out) | exact HB.out))))
                       replace HO449 := zaa.mk (Kd.R_elder' (by (with_reducible repeat (first | apply Kd.zqa | apply Kd.zpa | apply Kd.zsa)); exact HO449.out) (Kd.zxd ho0) hb)
                       replace HO453 := zaa.mk (Kd.R_elder' (by (with_reducible repeat (first | apply Kd.zqa | apply Kd.zpa | apply Kd.zsa)); exact HO453.out) (Kd.zxd ho0) hb)
                       replace HO460 := zaa.mk (Kd.R_elder' (by (with_reducible repeat (first | apply Kd.zqa | apply Kd.zpa | apply Kd.zsa)); exact HO460.out) (Kd.zxd ho0) hb)
                       replace BK445 := zaa.mk (zna (g := gb445) (o := .cells #[.int .u8 a0_0, .int .u8 a0_1, .int .u8 a0_2, .int .u8 a0_3] 22 (0, 0)) (by (with_reducible repeat (first | refine zga ?_ _ | refine zha ?_ | refine zfa ?_ _)); exact BK445.out) hb)
                       replace BK446 := zaa.mk (zna (g := gb446) (o := .cells #[.int .u8 a1_0, .int .u8 a1_1, .int .u8 a1_2] 23 (0, 0)) (by (with_reducible repeat (first | refine zga ?_ _ | refine zha ?_ | refine zfa ?_ _)); exact BK446.out) hb)
                       replace BK454 := zaa.mk (zna (g := gb454) (o := .cells #[.int .i64 t450, .slice Ao37 t451.length co37] 29 (0, 0)) (by (with_reducible repeat (first | refine zga ?_ _ | refine zha ?_ | refine zfa ?_ _)); exact BK454.out) hb)
                       replace HB := zaa.mk (zma (by repeat (first | (with_reducible first | exact HB.out | apply zda | apply zba | apply zca | refine zea ?_ GE445.out | refine zea ?_ GE446.out | refine zea ?_ GE454.out) | exact HB.out)) hb)
                       (try clear hb)
                       (try clear hb2)
                       (try clear hk)
                       (try clear hi)
                       (try clear ho0)
                       refine hK.out _ _ ⟨(zla BK454.out 0).trans rfl, (zla BK454.out 1).trans rfl⟩ (fun hHeld => ?_)
                       clear hK K
                       refine norm_ (a' := ?_) ?_ ?_
                       rotate_left
                       · show Act.put _ (some 68) _ = _
                         simp only [Act.put, List.setIfInBounds_toArray, List.set_cons_zero, List.set_cons_succ, zpb, zzb]
                         rfl
                       refine zxc (i := 6) (N := some 62) (v := ?_) (a' := ?_) #[true, true, true, true, true, true, true, false, false, false, false] rfl rfl (zyb HT_.out (by kernel_rfl)) (fun _ _ _ h => h) (Or.inl ⟨by rfl, ?_⟩) ?_ ?_
                       rotate_left
                       · intro w'
                         go_simp
                         with_reducible rfl
                       rotate_left
                       · simp only [Act.put, List.setIfInBounds_toArray, List.set_cons_zero, List.set_cons_succ, zpb, zzb]
                         rfl
                       refine zxc (i := 7) (N := some 69) (v := ?_) (a' := ?_) #[true, true, true, true, true, true, true, true, false, false, false] rfl rfl (zyb HT_.out (by kernel_rfl)) (fun _ _ _ h => h) (Or.inl ⟨by rfl, ?_⟩) ?_ ?_
                       rotate_left
                       · intro w'
                         go_simp
                         with_reducible rfl
                       rotate_left
                       · simp only [Act.put, List.setIfInBounds_toArray, List.set_cons_zero, List.set_cons_succ, zpb, zzb]
                         rfl
                       refine zxc (i := 8) (N := some 70) (v := ?_) (a' := ?_) #[true, true, true, true, true, true, true, true, true, false, false] rfl rfl (zyb HT_.out (by kernel_rfl)) (fun _ _ _ h => h) (Or.inl ⟨by rfl, ?_⟩) ?_ ?_
                       rotate_left
                       · intro w'
                         go_simp
                         with_reducible rfl
                       rotate_left
                       · simp only [Act.put, List.setIfInBounds_toArray, List.set_cons_zero, List.set_cons_succ, zpb, zzb]
                         rfl
                       refine zxc (i := 9) (N := some 15) (v := ?_) (a' := ?_) #[true, true, true, true, true, true, true, true, true, true, false] rfl rfl (zyb HT_.out (by kernel_rfl)) (fun _ _ _ h => h) (Or.inl ⟨by rfl, ?_⟩) ?_ ?_
                       rotate_left
                       · intro w'
                         go_simp
                         with_reducible rfl
                       rotate_left
                       · simp only [Act.put, List.setIfInBounds_toArray, List.set_cons_zero, List.set_cons_succ, zpb, zzb]
                         rfl
                       refine zxc (i := 10) (N := some 16) (v := ?_) (a' := ?_) #[true, true, true, true, true, true, true, true, true, true, true] rfl rfl (zyb HT_.out (by kernel_rfl)) (fun _ _ _ h => h) (Or.inl ⟨by rfl, ?_⟩) ?_ ?_
                       rotate_left
                       · intro w'
                         go_simp
                         with_reducible rfl
                       rotate_left
                       · simp only [Act.put, List.setIfInBounds_toArray, List.set_cons_zero, List.set_cons_succ, zpb, zzb]
                         rfl
                       refine done_ (done_of HT_.out (by kernel_rfl)) ?_
                       obtain ⟨Ao54, co54, eo54⟩ := Kd.zfd HO460.out
                       subst eo54
                       try go_wp2_with (first | (go_at_call 7; (with_reducible refine (zab.calls k _ _ t458 _ _ t447 true _ ?side1 ?side2 ?side3 ?side4 A11.out).mono ?_); (case side1 => repeat (first | exact (Kd.zgb HO460.out).2.2 | (with_reducible refine Kd.zrb ?_ _) | (with_reducible refine Kd.zqb ?_ _) | (with_reducible refine Kd.zmc ?_))); (case side2 => exact (Kd.zgb HO460.out).2.1); (case side3 => repeat (first | exact (Kd.zgb HO449.out).2.2 | (with_reducible refine Kd.zrb ?_ _) | (with_reducible refine Kd.zqb ?_ _) | (with_reducible refine Kd.zmc ?_))); (case side4 => exact (Kd.zgb HO449.out).2.1); rintro e w' ⟨rfl, ⟨nd, rfl⟩⟩; (try (rw [drewN_self w53]; generalize hq_ : World.drewN w53 _ = w53; have n0_ : zaa (Kd.R (Kd.int .i64) 3 w53 w.heap.size (fun k_ => some k_ ≠ (.slice Ao37 t451.length co37 : Value).ownBlock ∧ some k_ ≠ (.slice Ao54 t458.length co54 : Value).ownBlock ∧ some k_ ≠ (v469 : Value).ownBlock) (.slice Ao31 t447.length co31) t447) := ⟨by rw [← hq_]; exact (by (with_reducible repeat (first | apply Kd.zqa | apply Kd.zpa | apply Kd.zsa)); exact Kd.zsd HO449.out (fun _ hk => ⟨hk.1.1, ⟨hk.1.2, hk.2⟩⟩))⟩; have n1_ : zaa (Kd.R (Kd.int .i64) 3 w53 w.heap.size (fun k_ => some k_ ≠ (.slice Ao31 t447.length co31 : Value).ownBlock ∧ some k_ ≠ (.slice Ao54 t458.length co54 : Value).ownBlock ∧ some k_ ≠ (v469 : Value).ownBlock) (.slice Ao37 t451.length co37) t451) := ⟨by rw [← hq_]; exact (by (with_reducible repeat (first | apply Kd.zqa | apply Kd.zpa | apply Kd.zsa)); exact Kd.zsd HO453.out (fun _ hk => ⟨hk.1.1, ⟨hk.1.2, hk.2⟩⟩))⟩; have n2_ : zaa (Kd.R k32 32 w53 w.heap.size (fun k_ => some k_ ≠ (.slice Ao52 y465.length co52 : Value).ownBlock) (.slice Ao51 y455.length co51) y455) := ⟨by rw [← hq_]; exact (by (with_reducible repeat (first | apply Kd.zqa | apply Kd.zpa | apply Kd.zsa)); exact Kd.zsd HO457.out (fun _ hk => hk.2))⟩; have n3_ : zaa (Kd.R (Kd.int .i64) 3 w53 w.heap.size (fun k_ => some k_ ≠ (.slice Ao31 t447.length co31 : Value).ownBlock ∧ some k_ ≠ (.slice Ao37 t451.length co37 : Value).ownBlock ∧ some k_ ≠ (v469 : Value).ownBlock) (.slice Ao54 t458.length co54) t458) := ⟨by rw [← hq_]; exact (by (with_reducible repeat (first | apply Kd.zqa | apply Kd.zpa | apply Kd.zsa)); exact Kd.zsd HO460.out (fun _ hk => ⟨hk.1.1.2, ⟨hk.1.2, hk.2⟩⟩))⟩; have n4_ : zaa (Kd.R k32 32 w53 w.heap.size (fun k_ => some k_ ≠ (.slice Ao51 y455.length co51 : Value).ownBlock) (.slice Ao52 y465.length co52) y465) := ⟨by rw [← hq_]; exact (by (with_reducible repeat (first | apply Kd.zqa | apply Kd.zpa | apply Kd.zsa)); exact HO467.out)⟩; have n5_ : zaa (Kd.R (Kd.int .i64) 3 w53 w.heap.size (fun k_ => some k_ ≠ (.slice Ao31 t447.length co31 : Value).ownBlock ∧ some k_ ≠ (.slice Ao37 t451.length co37 : Value).ownBlock ∧ some k_ ≠ (.slice Ao54 t458.length co54 : Value).ownBlock) v469 t468) := ⟨by rw [← hq_]; exact (by (with_reducible repeat (first | apply Kd.zqa | apply Kd.zpa | apply Kd.zsa)); exact Kd.zsd HO470.out (fun _ hk => ⟨hk.1.1.2, ⟨hk.1.2, hk.2⟩⟩))⟩; have n6_ : zaa (w53.heap[gb445]? = some (.cells #[.int .u8 a0_0, .int .u8 a0_1, .int .u8 a0_2, .int .u8 a0_3] 22 (0, 0))) := ⟨by rw [← hq_]; exact (by (with_reducible repeat (first | refine zga ?_ _ | refine zha ?_ | refine zfa ?_ _)); exact BK445.out)⟩; have n7_ : zaa (w53.heap[gb446]? = some (.cells #[.int .u8 a1_0, .int .u8 a1_1, .int .u8 a1_2] 23 (0, 0))) := ⟨by rw [← hq_]; exact (by (with_reducible repeat (first | refine zga ?_ _ | refine zha ?_ | refine zfa ?_ _)); exact BK446.out)⟩; have n8_ : zaa (w53.heap[gb454]? = some (.cells #[.int .i64 t450, .slice Ao37 t451.length co37] 29 (0, 0))) := ⟨by rw [← hq_]; exact (by (with_reducible repeat (first | refine zga ?_ _ | refine zha ?_ | refine zfa ?_ _)); exact BK454.out)⟩; have n9_ : zaa (Below w.heap.size w w53) := ⟨by rw [← hq_]; exact (by repeat (first | (with_reducible first | exact HB.out | apply zda | apply zba | apply zca | refine zea ?_ GE445.out | refine zea ?_ GE446.out | refine zea ?_ GE454.out) | exact HB.out))⟩; clear HO449 HO453 HO457 HO460 HO467 HO470 BK445 BK446 BK454 HB hq_; have HO449 := n0_; have HO453 := n1_; have HO457 := n2_; have HO460 := n3_; have HO467 := n4_; have HO470 := n5_; have BK445 := n6_; have BK446 := n7_; have BK454 := n8_; have HB := n9_; clear n0_ n1_ n2_ n3_ n4_ n5_ n6_ n7_ n8_ n9_)); obtain ⟨Ao55, co55, eo55⟩ := Kd.zfd HO470.out; subst eo55) | ((with_reducible refine zxa (f := 5) rfl ?_); refine zhd (some 90) rfl rfl Tryz.func5 (by kernel_rfl) rfl #[.slice Ao55 t468.length co55] rfl (by (try simp only [List.map_toArray, List.map_cons, List.map_nil]); first | done | rfl | (simp only [List.length_drop, List.length_take]; rfl)) ?_; (with_reducible refine (zdc.calls _ _ t468 t473 _ ?side1 ?side2 A14.out).mono ?_); (case side1 => repeat (first | exact (Kd.zgb HO470.out).2.2 | (with_reducible refine Kd.zrb ?_ _) | (with_reducible refine Kd.zqb ?_ _) | (with_reducible refine Kd.zmc ?_))); (case side2 => exact (Kd.zgb HO470.out).2.1); rintro e w56 ⟨v474, rfl, ho0, hb⟩; refine ⟨_, rfl, ?_⟩; replace HO457 := zaa.mk (Kd.zcb (by (with_reducible repeat (first | apply Kd.zqa | apply Kd.zpa | apply Kd.zsa)); exact HO457.out) hb); replace HO467 := zaa.mk (Kd.zcb (by (with_reducible repeat (first | apply Kd.zqa | apply Kd.zpa | apply Kd.zsa)); exact HO467.out) hb); have HO475 := zaa.mk (Kd.znd (Kd.R_new' (Kd.R_new' (Kd.R_new' (Kd.R_new' ho0 (Kd.R_lt (by (with_reducible repeat (first | apply Kd.zqa | apply Kd.zpa | apply Kd.zsa)); exact HO449.out))) (Kd.R_lt (by (with_reducible repeat (first | apply Kd.zqa | apply Kd.zpa | apply Kd.zsa)); exact HO453.out))) (Kd.R_lt (by (with_reducible repeat (first | apply Kd.zqa | apply Kd.zpa | apply Kd.zsa)); exact HO460.out))) (Kd.R_lt (by (with_reducible repeat (first | apply Kd.zqa | apply Kd.zpa | apply Kd.zsa)); exact HO470.out))) (zja (by repeat (first | (with_reducible first | exact HB.out | apply zda | apply zba | apply zca | refine zea ?_ GE445.out | refine zea ?_ GE446.out | refine zea ?_ GE454.out) | exact HB.out)))); replace HO449 := zaa.mk (Kd.R_elder' (by (with_reducible repeat (first | apply Kd.zqa | apply Kd.zpa | apply Kd.zsa)); exact HO449.out) (Kd.zxd ho0) hb); replace HO453 := zaa.mk (Kd.R_elder' (by (with_reducible repeat (first | apply Kd.zqa | apply Kd.zpa | apply Kd.zsa)); exact HO453.out) (Kd.zxd ho0) hb); replace HO460 := zaa.mk (Kd.R_elder' (by (with_reducible repeat (first | apply Kd.zqa | apply Kd.zpa | apply Kd.zsa)); exact HO460.out) (Kd.zxd ho0) hb); replace HO470 := zaa.mk (Kd.R_elder' (by (with_reducible repeat (first | apply Kd.zqa | apply Kd.zpa | apply Kd.zsa)); exact HO470.out) (Kd.zxd ho0) hb); replace BK445 := zaa.mk (zna (g := gb445) (o := .cells #[.int .u8 a0_0, .int .u8 a0_1, .int .u8 a0_2, .int .u8 a0_3] 22 (0, 0)) (by (with_reducible repeat (first | refine zga ?_ _ | refine zha ?_ | refine zfa ?_ _)); exact BK445.out) hb); replace BK446 := zaa.mk (zna (g := gb446) (o := .cells #[.int .u8 a1_0, .int .u8 a1_1, .int .u8 a1_2] 23 (0, 0)) (by (with_reducible repeat (first | refine zga ?_ _ | refine zha ?_ | refine zfa ?_ _)); exact BK446.out) hb); replace BK454 := zaa.mk (zna (g := gb454) (o := .cells #[.int .i64 t450, .slice Ao37 t451.length co37] 29 (0, 0)) (by (with_reducible repeat (first | refine zga ?_ _ | refine zha ?_ | refine zfa ?_ _)); exact BK454.out) hb); replace HB := zaa.mk (zma (by repeat (first | (with_reducible first | exact HB.out | apply zda | apply zba | apply zca | refine zea ?_ GE445.out | refine zea ?_ GE446.out | refine zea ?_ GE454.out) | exact HB.out)) hb); (try clear hb); (try clear hb2); (try clear hk); (try clear hi); (try clear ho0); obtain ⟨Ao57, co57, eo57⟩ := Kd.zfd HO475.out; subst eo57) | ((with_reducible refine zbb (N := 91) rfl ?_); (try (refine zid (by rfl) ?_; dsimp only)); refine Kd.N_lit (Kd.slice 3 (Kd.int .i64)) _ 24 ?hg (N' := 91) ?hd (xs := ([t473] : List (List Int))) (inner := [.slice Ao57 t473.length co57]) (ok := (fun k_ => some k_ ≠ (.slice Ao31 t447.length co31 : Value).ownBlock ∧ some k_ ≠ (.slice Ao37 t451.length co37 : Value).ownBlock ∧ some k_ ≠ (.slice Ao51 y455.length co51 : Value).ownBlock ∧ some k_ ≠ (.slice Ao54 t458.length co54 : Value).ownBlock ∧ some k_ ≠ (.slice Ao52 y465.length co52 : Value).ownBlock ∧ some k_ ≠ (.slice Ao55 t468.length co55 : Value).ownBlock ∧ k_ ≠ gb445 ∧ k_ ≠ gb446 ∧ k_ ≠ gb454)) (okp := (fun k_ => some k_ ≠ (.slice Ao31 t447.length co31 : Value).ownBlock ∧ some k_ ≠ (.slice Ao37 t451.length co37 : Value).ownBlock ∧ some k_ ≠ (.slice Ao51 y455.length co51 : Value).ownBlock ∧ some k_ ≠ (.slice Ao54 t458.length co54 : Value).ownBlock ∧ some k_ ≠ (.slice Ao52 y465.length co52 : Value).ownBlock ∧ some k_ ≠ (.slice Ao55 t468.length co55 : Value).ownBlock ∧ k_ ≠ gb445 ∧ k_ ≠ gb446 ∧ k_ ≠ gb454)) ?hr ?hp (fun _ hk => hk) ((show ∀ k_, w56.heap.size ≤ k_ → (fun k_ => some k_ ≠ (.slice Ao31 t447.length co31 : Value).ownBlock ∧ some k_ ≠ (.slice Ao37 t451.length co37 : Value).ownBlock ∧ some k_ ≠ (.slice Ao51 y455.length co51 : Value).ownBlock ∧ some k_ ≠ (.slice Ao54 t458.length co54 : Value).ownBlock ∧ some k_ ≠ (.slice Ao52 y465.length co52 : Value).ownBlock ∧ some k_ ≠ (.slice Ao55 t468.length co55 : Value).ownBlock ∧ k_ ≠ gb445 ∧ k_ ≠ gb446 ∧ k_ ≠ gb454) k_ from fun k_ hk => ⟨Kd.fresh' (Kd.R_lt (by (with_reducible repeat (first | apply Kd.zqa | apply Kd.zpa | apply Kd.zsa)); exact HO449.out)) k_ hk, Kd.fresh' (Kd.R_lt (by (with_reducible repeat (first | apply Kd.zqa | apply Kd.zpa | apply Kd.zsa)); exact HO453.out)) k_ hk, Kd.fresh' (Kd.R_lt (by (with_reducible repeat (first | apply Kd.zqa | apply Kd.zpa | apply Kd.zsa)); exact HO457.out)) k_ hk, Kd.fresh' (Kd.R_lt (by (with_reducible repeat (first | apply Kd.zqa | apply Kd.zpa | apply Kd.zsa)); exact HO460.out)) k_ hk, Kd.fresh' (Kd.R_lt (by (with_reducible repeat (first | apply Kd.zqa | apply Kd.zpa | apply Kd.zsa)); exact HO467.out)) k_ hk, Kd.fresh' (Kd.R_lt (by (with_reducible repeat (first | apply Kd.zqa | apply Kd.zpa | apply Kd.zsa)); exact HO470.out)) k_ hk, Kd.freshB (g := gb445) (o := .cells #[.int .u8 a0_0, .int .u8 a0_1, .int .u8 a0_2, .int .u8 a0_3] 22 (0, 0)) (by (with_reducible repeat (first | refine zga ?_ _ | refine zha ?_ | refine zfa ?_ _)); exact BK445.out) k_ hk, Kd.freshB (g := gb446) (o := .cells #[.int .u8 a1_0, .int .u8 a1_1, .int .u8 a1_2] 23 (0, 0)) (by (with_reducible repeat (first | refine zga ?_ _ | refine zha ?_ | refine zfa ?_ _)); exact BK446.out) k_ hk, Kd.freshB (g := gb454) (o := .cells #[.int .i64 t450, .slice Ao37 t451.length co37] 29 (0, 0)) (by (with_reducible repeat (first | refine zga ?_ _ | refine zha ?_ | refine zfa ?_ _)); exact BK454.out) k_ hk⟩) _ (Nat.le_refl _)) (Below.refl _ _) (Nat.le_refl _) (by simp) ?_; (case hd => rfl); (case hg => rfl); (case hr => first | (go_simp; done) | (go_simp; rfl)); (case hp => exact (Reps.one (show Kd.FK (Kd.slice 3 (Kd.int .i64)) _ _ t473 [.slice Ao57 t473.length co57] from (Kd.FK_slice_mk (Kd.zgb (Kd.zsd (ok' := (fun k_ => some k_ ≠ (.slice Ao31 t447.length co31 : Value).ownBlock ∧ some k_ ≠ (.slice Ao37 t451.length co37 : Value).ownBlock ∧ some k_ ≠ (.slice Ao51 y455.length co51 : Value).ownBlock ∧ some k_ ≠ (.slice Ao54 t458.length co54 : Value).ownBlock ∧ some k_ ≠ (.slice Ao52 y465.length co52 : Value).ownBlock ∧ some k_ ≠ (.slice Ao55 t468.length co55 : Value).ownBlock ∧ k_ ≠ gb445 ∧ k_ ≠ gb446 ∧ k_ ≠ gb454)) (Kd.zpc (Kd.zpc (Kd.zpc (Kd.zfc (Kd.zfc (HO475.out) (Kd.zkd HO457.out) (by decide)) (Kd.zkd HO467.out) (by decide)) BK445.out (by decide)) BK446.out (by decide)) BK454.out (by decide)) (fun k_ hk => ⟨hk.1.1.1.1.1.1.1.1.2, ⟨hk.1.1.1.1.1.1.1.2, ⟨hk.1.1.1.1.2, ⟨hk.1.1.1.1.1.1.2, ⟨hk.1.1.1.2, ⟨hk.1.1.1.1.1.2, ⟨hk.1.1.2, ⟨hk.1.2, hk.2⟩⟩⟩⟩⟩⟩⟩⟩))).2.1 (Kd.R_F (Kd.zsd (ok' := (fun k_ => some k_ ≠ (.slice Ao31 t447.length co31 : Value).ownBlock ∧ some k_ ≠ (.slice Ao37 t451.length co37 : Value).ownBlock ∧ some k_ ≠ (.slice Ao51 y455.length co51 : Value).ownBlock ∧ some k_ ≠ (.slice Ao54 t458.length co54 : Value).ownBlock ∧ some k_ ≠ (.slice Ao52 y465.length co52 : Value).ownBlock ∧ some k_ ≠ (.slice Ao55 t468.length co55 : Value).ownBlock ∧ k_ ≠ gb445 ∧ k_ ≠ gb446 ∧ k_ ≠ gb454)) (Kd.zpc (Kd.zpc (Kd.zpc (Kd.zfc (Kd.zfc (HO475.out) (Kd.zkd HO457.out) (by decide)) (Kd.zkd HO467.out) (by decide)) BK445.out (by decide)) BK446.out (by decide)) BK454.out (by decide)) (fun k_ hk => ⟨hk.1.1.1.1.1.1.1.1.2, ⟨hk.1.1.1.1.1.1.1.2, ⟨hk.1.1.1.1.2, ⟨hk.1.1.1.1.1.1.2, ⟨hk.1.1.1.2, ⟨hk.1.1.1.1.1.2, ⟨hk.1.1.2, ⟨hk.1.2, hk.2⟩⟩⟩⟩⟩⟩⟩⟩))))) (Reps.none _ _))); intro v477 w58 ho59 hb hg_ hnew_; clear hg_ hnew_; (first | rw [← Ny476.out] at ho59 | (simp only [Int.reduceToNat] at ho59; rw [← Ny476.out] at ho59)); replace HO449 := zaa.mk (Kd.zcb (by (with_reducible repeat (first | apply Kd.zqa | apply Kd.zpa | apply Kd.zsa)); exact HO449.out) hb); replace HO453 := zaa.mk (Kd.zcb (by (with_reducible repeat (first | apply Kd.zqa | apply Kd.zpa | apply Kd.zsa)); exact HO453.out) hb); replace HO457 := zaa.mk (Kd.zcb (by (with_reducible repeat (first | apply Kd.zqa | apply Kd.zpa | apply Kd.zsa)); exact HO457.out) hb); replace HO460 := zaa.mk (Kd.zcb (by (with_reducible repeat (first | apply Kd.zqa | apply Kd.zpa | apply Kd.zsa)); exact HO460.out) hb); replace HO467 := zaa.mk (Kd.zcb (by (with_reducible repeat (first | apply Kd.zqa | apply Kd.zpa | apply Kd.zsa)); exact HO467.out) hb); replace HO470 := zaa.mk (Kd.zcb (by (with_reducible repeat (first | apply Kd.zqa | apply Kd.zpa | apply Kd.zsa)); exact HO470.out) hb); have HO478 := zaa.mk (Kd.N_lower ho59 (zja (by repeat (first | (with_reducible first | exact HB.out | apply zda | apply zba | apply zca | refine zea ?_ GE445.out | refine zea ?_ GE446.out | refine zea ?_ GE454.out) | exact HB.out)))); replace BK445 := zaa.mk (zna (g := gb445) (o := .cells #[.int .u8 a0_0, .int .u8 a0_1, .int .u8 a0_2, .int .u8 a0_3] 22 (0, 0)) (by (with_reducible repeat (first | refine zga ?_ _ | refine zha ?_ | refine zfa ?_ _)); exact BK445.out) hb); replace BK446 := zaa.mk (zna (g := gb446) (o := .cells #[.int .u8 a1_0, .int .u8 a1_1, .int .u8 a1_2] 23 (0, 0)) (by (with_reducible repeat (first | refine zga ?_ _ | refine zha ?_ | refine zfa ?_ _)); exact BK446.out) hb); replace BK454 := zaa.mk (zna (g := gb454) (o := .cells #[.int .i64 t450, .slice Ao37 t451.length co37] 29 (0, 0)) (by (with_reducible repeat (first | refine zga ?_ _ | refine zha ?_ | refine zfa ?_ _)); exact BK454.out) hb); replace HB := zaa.mk (zma (by repeat (first | (with_reducible first | exact HB.out | apply zda | apply zba | apply zca | refine zea ?_ GE445.out | refine zea ?_ GE446.out | refine zea ?_ GE454.out) | exact HB.out)) hb); clear HO475; clear hb ho59; obtain ⟨Ao60, co60, eo60⟩ := Kd.N_slice HO478.out; subst eo60) | ((with_reducible refine zbb (N := 17) rfl ?_); (try (refine zid (by rfl) ?_; dsimp only)); refine zob ?hg (N := 17) ?hd (cs := #[.int .i64 0, .int .i64 0, .slice none 0 0]) (t := 40) ?hr ?_; (case hd => rfl); (case hg => rfl); (case hr => first | (go_simp; done) | (go_simp; rfl)); intro gb479 hg w61 hbox hb; replace HO449 := zaa.mk (Kd.zcb (by (with_reducible repeat (first | apply Kd.zqa | apply Kd.zpa | apply Kd.zsa)); exact HO449.out) hb); replace HO453 := zaa.mk (Kd.zcb (by (with_reducible repeat (first | apply Kd.zqa | apply Kd.zpa | apply Kd.zsa)); exact HO453.out) hb); replace HO457 := zaa.mk (Kd.zcb (by (with_reducible repeat (first | apply Kd.zqa | apply Kd.zpa | apply Kd.zsa)); exact HO457.out) hb); replace HO460 := zaa.mk (Kd.zcb (by (with_reducible repeat (first | apply Kd.zqa | apply Kd.zpa | apply Kd.zsa)); exact HO460.out) hb); replace HO467 := zaa.mk (Kd.zcb (by (with_reducible repeat (first | apply Kd.zqa | apply Kd.zpa | apply Kd.zsa)); exact HO467.out) hb); replace HO470 := zaa.mk (Kd.zcb (by (with_reducible repeat (first | apply Kd.zqa | apply Kd.zpa | apply Kd.zsa)); exact HO470.out) hb); replace HO478 := zaa.mk (Kd.N_below (Kd.N_elderB (by (with_reducible repeat (first | apply Kd.N_alloc | apply Kd.N_drewN | apply Kd.N_drew)); exact HO478.out) gb479 (Nat.le_of_eq hg.symm)) hb); have BK479 := zaa.mk (hbox); have GW479 := zaa.mk ((by rw [hg]; exact (zja (by repeat (first | (with_reducible first | exact HB.out | apply zda | apply zba | apply zca | refine zea ?_ GE445.out | refine zea ?_ GE446.out | refine zea ?_ GE454.out) | exact HB.out))) : w.heap.size ≤ gb479)); have GE479 := zaa.mk ((by rw [hg]; exact (zja (by repeat (first | (with_reducible first | exact HB.out | apply zda | apply zba | apply zca | refine zea ?_ GE445.out | refine zea ?_ GE446.out | refine zea ?_ GE454.out) | exact HB.out))) : w.heap.size ≤ gb479)); replace HB := zaa.mk (zma (by repeat (first | (with_reducible first | exact HB.out | apply zda | apply zba | apply zca | refine zea ?_ GE445.out | refine zea ?_ GE446.out | refine zea ?_ GE454.out) | exact HB.out)) hb); have NB445_479 := zaa.mk ((by rw [hg]; exact Nat.ne_of_lt (zbc (g := gb445) (o := .cells #[.int .u8 a0_0, .int .u8 a0_1, .int .u8 a0_2, .int .u8 a0_3] 22 (0, 0)) (by (with_reducible repeat (first | refine zga ?_ _ | refine zha ?_ | refine zfa ?_ _)); exact BK445.out)) : gb445 ≠ gb479)); have NB479_445 := zaa.mk ((by rw [hg]; exact Nat.ne_of_gt (zbc (g := gb445) (o := .cells #[.int .u8 a0_0, .int .u8 a0_1, .int .u8 a0_2, .int .u8 a0_3] 22 (0, 0)) (by (with_reducible repeat (first | refine zga ?_ _ | refine zha ?_ | refine zfa ?_ _)); exact BK445.out)) : gb479 ≠ gb445)); replace BK445 := zaa.mk (zna (g := gb445) (o := .cells #[.int .u8 a0_0, .int .u8 a0_1, .int .u8 a0_2, .int .u8 a0_3] 22 (0, 0)) (by (with_reducible repeat (first | refine zga ?_ _ | refine zha ?_ | refine zfa ?_ _)); exact BK445.out) hb); have NB446_479 := zaa.mk ((by rw [hg]; exact Nat.ne_of_lt (zbc (g := gb446) (o := .cells #[.int .u8 a1_0, .int .u8 a1_1, .int .u8 a1_2] 23 (0, 0)) (by (with_reducible repeat (first | refine zga ?_ _ | refine zha ?_ | refine zfa ?_ _)); exact BK446.out)) : gb446 ≠ gb479)); have NB479_446 := zaa.mk ((by rw [hg]; exact Nat.ne_of_gt (zbc (g := gb446) (o := .cells #[.int .u8 a1_0, .int .u8 a1_1, .int .u8 a1_2] 23 (0, 0)) (by (with_reducible repeat (first | refine zga ?_ _ | refine zha ?_ | refine zfa ?_ _)); exact BK446.out)) : gb479 ≠ gb446)); replace BK446 := zaa.mk (zna (g := gb446) (o := .cells #[.int .u8 a1_0, .int .u8 a1_1, .int .u8 a1_2] 23 (0, 0)) (by (with_reducible repeat (first | refine zga ?_ _ | refine zha ?_ | refine zfa ?_ _)); exact BK446.out) hb); have NB454_479 := zaa.mk ((by rw [hg]; exact Nat.ne_of_lt (zbc (g := gb454) (o := .cells #[.int .i64 t450, .slice Ao37 t451.length co37] 29 (0, 0)) (by (with_reducible repeat (first | refine zga ?_ _ | refine zha ?_ | refine zfa ?_ _)); exact BK454.out)) : gb454 ≠ gb479)); have NB479_454 := zaa.mk ((by rw [hg]; exact Nat.ne_of_gt (zbc (g := gb454) (o := .cells #[.int .i64 t450, .slice Ao37 t451.length co37] 29 (0, 0)) (by (with_reducible repeat (first | refine zga ?_ _ | refine zha ?_ | refine zfa ?_ _)); exact BK454.out)) : gb479 ≠ gb454)); replace BK454 := zaa.mk (zna (g := gb454) (o := .cells #[.int .i64 t450, .slice Ao37 t451.length co37] 29 (0, 0)) (by (with_reducible repeat (first | refine zga ?_ _ | refine zha ?_ | refine zfa ?_ _)); exact BK454.out) hb); clear hb hbox hg; have hnb62 := NB479_445.out; have hnc62 := NB445_479.out; have hnb63 := NB479_446.out; have hnc63 := NB446_479.out; have hnb64 := NB479_454.out; have hnc64 := NB454_479.out; have hcz65_0 : w61.cell? ⟨gb479, 0, none⟩ = some (.int .i64 0) := (zla BK479.out 0).trans rfl; have hcz65_1 : w61.cell? ⟨gb479, 1, none⟩ = some (.int .i64 0) := (zla BK479.out 1).trans rfl; have hcz65_2 : w61.cell? ⟨gb479, 2, none⟩ = some (.slice none 0 0) := (zla BK479.out 2).trans rfl; have hfz65_0 := zka BK479.out 0; have hfz65_1 := zka BK479.out 1; have hfz65_2 := zka BK479.out 2) | ((with_reducible refine zbb (N := 96) rfl ?_); (try (refine zid (by rfl) ?_; dsimp only)); refine Kd.R_lit k45 _ 45 ?hg (N := 96) ?hd (xs := ([(⟨0, 0⟩ : S45)] : List (S45))) (inner := [.int .i64 0, .int .i64 0]) (ok := fun _ => True) (okp := fun _ => True) ?hr ?hp (fun _ hk => hk) trivial (Below.refl _ _) (Nat.le_refl _) (by simp) ?_; (case hd => rfl); (case hg => rfl); (case hr => first | (go_simp; done) | (go_simp; rfl)); (case hp => exact (Reps.c2 (show Kd.M k45 _ _ _ (⟨0, 0⟩ : S45) [.int .i64 0, .int .i64 0] from (k45_mkM _ _ _ (⟨0, 0⟩ : S45) )) (Reps.none _ _))); intro v481 w66 ho67 hb hg_ hnew_; clear hg_ hnew_; (first | rw [← Ny480.out] at ho67 | (simp only [Int.reduceToNat] at ho67; rw [← Ny480.out] at ho67)); replace HO449 := zaa.mk (Kd.zcb (by (with_reducible repeat (first | apply Kd.zqa | apply Kd.zpa | apply Kd.zsa)); exact (Kd.zsd (Kd.R_far (p := ⟨gb479, 2, none⟩) (Kd.R_far (p := ⟨gb479, 1, none⟩) (Kd.R_far (p := ⟨gb479, 0, none⟩) (Kd.zpc HO449.out BK479.out (by decide)) (fun _ hk => hk.2) (.int .i64 t450)) (fun _ hk => hk.2) (.int .i64 3)) (fun _ hk => hk.2) (.slice Ao60 y476.length co60)) (fun _ h_ => h_.1))) hb); replace HO453 := zaa.mk (Kd.zcb (by (with_reducible repeat (first | apply Kd.zqa | apply Kd.zpa | apply Kd.zsa)); exact (Kd.zsd (Kd.R_far (p := ⟨gb479, 2, none⟩) (Kd.R_far (p := ⟨gb479, 1, none⟩) (Kd.R_far (p := ⟨gb479, 0, none⟩) (Kd.zpc HO453.out BK479.out (by decide)) (fun _ hk => hk.2) (.int .i64 t450)) (fun _ hk => hk.2) (.int .i64 3)) (fun _ hk => hk.2) (.slice Ao60 y476.length co60)) (fun _ h_ => h_.1))) hb); replace HO457 := zaa.mk (Kd.zcb (by (with_reducible repeat (first | apply Kd.zqa | apply Kd.zpa | apply Kd.zsa)); exact (Kd.zsd (Kd.R_far (p := ⟨gb479, 2, none⟩) (Kd.R_far (p := ⟨gb479, 1, none⟩) (Kd.R_far (p := ⟨gb479, 0, none⟩) (Kd.zpc HO457.out BK479.out (by decide)) (fun _ hk => hk.2) (.int .i64 t450)) (fun _ hk => hk.2) (.int .i64 3)) (fun _ hk => hk.2) (.slice Ao60 y476.length co60)) (fun _ h_ => h_.1))) hb); replace HO460 := zaa.mk (Kd.zcb (by (with_reducible repeat (first | apply Kd.zqa | apply Kd.zpa | apply Kd.zsa)); exact (Kd.zsd (Kd.R_far (p := ⟨gb479, 2, none⟩) (Kd.R_far (p := ⟨gb479, 1, none⟩) (Kd.R_far (p := ⟨gb479, 0, none⟩) (Kd.zpc HO460.out BK479.out (by decide)) (fun _ hk => hk.2) (.int .i64 t450)) (fun _ hk => hk.2) (.int .i64 3)) (fun _ hk => hk.2) (.slice Ao60 y476.length co60)) (fun _ h_ => h_.1))) hb); replace HO467 := zaa.mk (Kd.zcb (by (with_reducible repeat (first | apply Kd.zqa | apply Kd.zpa | apply Kd.zsa)); exact (Kd.zsd (Kd.R_far (p := ⟨gb479, 2, none⟩) (Kd.R_far (p := ⟨gb479, 1, none⟩) (Kd.R_far (p := ⟨gb479, 0, none⟩) (Kd.zpc HO467.out BK479.out (by decide)) (fun _ hk => hk.2) (.int .i64 t450)) (fun _ hk => hk.2) (.int .i64 3)) (fun _ hk => hk.2) (.slice Ao60 y476.length co60)) (fun _ h_ => h_.1))) hb); replace HO470 := zaa.mk (Kd.zcb (by (with_reducible repeat (first | apply Kd.zqa | apply Kd.zpa | apply Kd.zsa)); exact (Kd.zsd (Kd.R_far (p := ⟨gb479, 2, none⟩) (Kd.R_far (p := ⟨gb479, 1, none⟩) (Kd.R_far (p := ⟨gb479, 0, none⟩) (Kd.zpc HO470.out BK479.out (by decide)) (fun _ hk => hk.2) (.int .i64 t450)) (fun _ hk => hk.2) (.int .i64 3)) (fun _ hk => hk.2) (.slice Ao60 y476.length co60)) (fun _ h_ => h_.1))) hb); replace HO478 := zaa.mk (Kd.N_elder' (by (with_reducible repeat (first | apply Kd.N_alloc | apply Kd.N_drewN | apply Kd.N_drew)); exact (Kd.N_mono (Kd.N_far (p := ⟨gb479, 2, none⟩) (Kd.N_far (p := ⟨gb479, 1, none⟩) (Kd.N_far (p := ⟨gb479, 0, none⟩) (Kd.N_mono HO478.out (fun k_ hk => (⟨hk, hk.2⟩ : _ ∧ k_ ≠ gb479))) (fun _ hk => hk.2) (.int .i64 t450)) (fun _ hk => hk.2) (.int .i64 3)) (fun _ hk => hk.2) (.slice Ao60 y476.length co60)) (fun _ h_ => h_.1))) (Kd.zxd ho67) hb); have HO482 := zaa.mk (Kd.znd ho67 (zja (by repeat (first | (with_reducible first | exact HB.out | apply zda | apply zba | apply zca | refine zea ?_ GE445.out | refine zea ?_ GE446.out | refine zea ?_ GE454.out | refine zea ?_ GE479.out) | exact HB.out)))); replace BK445 := zaa.mk (zna (g := gb445) (o := .cells #[.int .u8 a0_0, .int .u8 a0_1, .int .u8 a0_2, .int .u8 a0_3] 22 (0, 0)) (by (with_reducible repeat (first | refine zga ?_ _ | refine zha ?_ | refine zfa ?_ _)); refine zsc ?_ NB445_479.out _; (with_reducible repeat (first | refine zga ?_ _ | refine zha ?_ | refine zfa ?_ _)); refine zsc ?_ NB445_479.out _; (with_reducible repeat (first | refine zga ?_ _ | refine zha ?_ | refine zfa ?_ _)); refine zsc ?_ NB445_479.out _; (with_reducible repeat (first | refine zga ?_ _ | refine zha ?_ | refine zfa ?_ _)); exact BK445.out) hb); replace BK446 := zaa.mk (zna (g := gb446) (o := .cells #[.int .u8 a1_0, .int .u8 a1_1, .int .u8 a1_2] 23 (0, 0)) (by (with_reducible repeat (first | refine zga ?_ _ | refine zha ?_ | refine zfa ?_ _)); refine zsc ?_ NB446_479.out _; (with_reducible repeat (first | refine zga ?_ _ | refine zha ?_ | refine zfa ?_ _)); refine zsc ?_ NB446_479.out _; (with_reducible repeat (first | refine zga ?_ _ | refine zha ?_ | refine zfa ?_ _)); refine zsc ?_ NB446_479.out _; (with_reducible repeat (first | refine zga ?_ _ | refine zha ?_ | refine zfa ?_ _)); exact BK446.out) hb); replace BK454 := zaa.mk (zna (g := gb454) (o := .cells #[.int .i64 t450, .slice Ao37 t451.length co37] 29 (0, 0)) (by (with_reducible repeat (first | refine zga ?_ _ | refine zha ?_ | refine zfa ?_ _)); refine zsc ?_ NB454_479.out _; (with_reducible repeat (first | refine zga ?_ _ | refine zha ?_ | refine zfa ?_ _)); refine zsc ?_ NB454_479.out _; (with_reducible repeat (first | refine zga ?_ _ | refine zha ?_ | refine zfa ?_ _)); refine zsc ?_ NB454_479.out _; (with_reducible repeat (first | refine zga ?_ _ | refine zha ?_ | refine zfa ?_ _)); exact BK454.out) hb); replace BK479 := zaa.mk (zna (g := gb479) (o := .cells #[.int .i64 t450, .int .i64 3, .slice Ao60 y476.length co60] 40 (0, 0)) (by (with_reducible repeat (first | refine zga ?_ _ | refine zha ?_ | refine zfa ?_ _)); refine zzc (cs := #[.int .i64 t450, .int .i64 3, .slice none 0 0]) ?_ 2 _ rfl; (with_reducible repeat (first | refine zga ?_ _ | refine zha ?_ | refine zfa ?_ _)); refine zzc (cs := #[.int .i64 t450, .int .i64 0, .slice none 0 0]) ?_ 1 _ rfl; (with_reducible repeat (first | refine zga ?_ _ | refine zha ?_ | refine zfa ?_ _)); refine zzc (cs := #[.int .i64 0, .int .i64 0, .slice none 0 0]) ?_ 0 _ rfl; (with_reducible repeat (first | refine zga ?_ _ | refine zha ?_ | refine zfa ?_ _)); exact BK479.out) hb); replace HB := zaa.mk (zma (by repeat (first | (with_reducible first | exact HB.out | apply zda | apply zba | apply zca | refine zea ?_ GE445.out | refine zea ?_ GE446.out | refine zea ?_ GE454.out | refine zea ?_ GE479.out) | exact HB.out)) hb); clear hb ho67; obtain ⟨Ao68, co68, eo68⟩ := Kd.zfd HO482.out; subst eo68) | ((with_reducible refine zxa (f := 8) rfl ?_); refine zhd (some 97) rfl rfl Tryz.func8 (by kernel_rfl) rfl #[.agg #[.int .i64 t450, .int .i64 3, .slice Ao60 y476.length co60], .slice Ao68 y480.length co68] rfl (by (try simp only [List.map_toArray, List.map_cons, List.map_nil]); first | done | rfl | (simp only [List.length_drop, List.length_take]; rfl)) ?_; (with_reducible refine (zec.calls k t450 3 _ _ y476 _ _ y480 t483 t486 _ ?side1 ?side2 ?side3 ?side4 A15.out).mono ?_); (case side1 => repeat (first | exact (Kd.N_reads' HO478.out).2.2 | (with_reducible refine Kd.zrb ?_ _) | (with_reducible refine Kd.zqb ?_ _) | (with_reducible refine Kd.zmc ?_))); (case side2 => exact (Kd.N_reads' HO478.out).2.1); (case side3 => repeat (first | exact (Kd.zgb HO482.out).2.2 | (with_reducible refine Kd.zrb ?_ _) | (with_reducible refine Kd.zqb ?_ _) | (with_reducible refine Kd.zmc ?_))); (case side4 => exact (Kd.zgb HO482.out).2.1); rintro e w69 ⟨v484, rfl, ho0, hb⟩; refine ⟨_, rfl, ?_⟩; replace HO449 := zaa.mk (Kd.zcb (by (with_reducible repeat (first | apply Kd.zqa | apply Kd.zpa | apply Kd.zsa)); exact HO449.out) hb); replace HO453 := zaa.mk (Kd.zcb (by (with_reducible repeat (first | apply Kd.zqa | apply Kd.zpa | apply Kd.zsa)); exact HO453.out) hb); replace HO457 := zaa.mk (Kd.zcb (by (with_reducible repeat (first | apply Kd.zqa | apply Kd.zpa | apply Kd.zsa)); exact HO457.out) hb); replace HO460 := zaa.mk (Kd.zcb (by (with_reducible repeat (first | apply Kd.zqa | apply Kd.zpa | apply Kd.zsa)); exact HO460.out) hb); replace HO467 := zaa.mk (Kd.zcb (by (with_reducible repeat (first | apply Kd.zqa | apply Kd.zpa | apply Kd.zsa)); exact HO467.out) hb); replace HO470 := zaa.mk (Kd.zcb (by (with_reducible repeat (first | apply Kd.zqa | apply Kd.zpa | apply Kd.zsa)); exact HO470.out) hb); replace HO478 := zaa.mk (Kd.N_elder' (by (with_reducible repeat (first | apply Kd.N_alloc | apply Kd.N_drewN | apply Kd.N_drew)); exact HO478.out) (Kd.zxd ho0) hb); replace HO482 := zaa.mk (Kd.zcb (by (with_reducible repeat (first | apply Kd.zqa | apply Kd.zpa | apply Kd.zsa)); exact HO482.out) hb); have HO485 := zaa.mk (Kd.znd ho0 (zja (by repeat (first | (with_reducible first | exact HB.out | apply zda | apply zba | apply zca | refine zea ?_ GE445.out | refine zea ?_ GE446.out | refine zea ?_ GE454.out | refine zea ?_ GE479.out) | exact HB.out)))); replace BK445 := zaa.mk (zna (g := gb445) (o := .cells #[.int .u8 a0_0, .int .u8 a0_1, .int .u8 a0_2, .int .u8 a0_3] 22 (0, 0)) (by (with_reducible repeat (first | refine zga ?_ _ | refine zha ?_ | refine zfa ?_ _)); exact BK445.out) hb); replace BK446 := zaa.mk (zna (g := gb446) (o := .cells #[.int .u8 a1_0, .int .u8 a1_1, .int .u8 a1_2] 23 (0, 0)) (by (with_reducible repeat (first | refine zga ?_ _ | refine zha ?_ | refine zfa ?_ _)); exact BK446.out) hb); replace BK454 := zaa.mk (zna (g := gb454) (o := .cells #[.int .i64 t450, .slice Ao37 t451.length co37] 29 (0, 0)) (by (with_reducible repeat (first | refine zga ?_ _ | refine zha ?_ | refine zfa ?_ _)); exact BK454.out) hb); replace BK479 := zaa.mk (zna (g := gb479) (o := .cells #[.int .i64 t450, .int .i64 3, .slice Ao60 y476.length co60] 40 (0, 0)) (by (with_reducible repeat (first | refine zga ?_ _ | refine zha ?_ | refine zfa ?_ _)); exact BK479.out) hb); replace HB := zaa.mk (zma (by repeat (first | (with_reducible first | exact HB.out | apply zda | apply zba | apply zca | refine zea ?_ GE445.out | refine zea ?_ GE446.out | refine zea ?_ GE454.out | refine zea ?_ GE479.out) | exact HB.out)) hb); (try clear hb); (try clear hb2); (try clear hk); (try clear hi); (try clear ho0); have hcz70_0 : w69.cell? ⟨gb479, 0, none⟩ = some (.int .i64 t450) := (zla BK479.out 0).trans rfl; have hcz70_1 : w69.cell? ⟨gb479, 1, none⟩ = some (.int .i64 3) := (zla BK479.out 1).trans rfl; have hcz70_2 : w69.cell? ⟨gb479, 2, none⟩ = some (.slice Ao60 y476.length co60) := (zla BK479.out 2).trans rfl; have hfz70_0 := zka BK479.out 0; have hfz70_1 := zka BK479.out 1; have hfz70_2 := zka BK479.out 2) | ((with_reducible refine zbb (N := 103) rfl ?_); (try (refine zid (by rfl) ?_; dsimp only)); refine Kd.R_lit k53 _ 53 ?hg (N := 103) ?hd (xs := ([(⟨(⟨0, 0⟩ : S51), (⟨0, 0⟩ : S51)⟩ : S53)] : List (S53))) (inner := [.int .i64 0, .int .i64 0, .int .i64 0, .int .i64 0]) (ok := fun _ => True) (okp := fun _ => True) ?hr ?hp (fun _ hk => hk) trivial (Below.refl _ _) (Nat.le_refl _) (by simp) ?_; (case hd => rfl); (case hg => rfl); (case hr => first | (go_simp; done) | (go_simp; rfl)); (case hp => exact (Reps.c4 (show Kd.M k53 _ _ _ (⟨(⟨0, 0⟩ : S51), (⟨0, 0⟩ : S51)⟩ : S53) [.int .i64 0, .int .i64 0, .int .i64 0, .int .i64 0] from (k53_mkM _ _ _ (⟨(⟨0, 0⟩ : S51), (⟨0, 0⟩ : S51)⟩ : S53) )) (Reps.none _ _))); intro v488 w71 ho72 hb hg_ hnew_; clear hg_ hnew_; (first | rw [← Ny487.out] at ho72 | (simp only [Int.reduceToNat] at ho72; rw [← Ny487.out] at ho72)); replace HO449 := zaa.mk (Kd.zcb (by (with_reducible repeat (first | apply Kd.zqa | apply Kd.zpa | apply Kd.zsa)); exact HO449.out) hb); replace HO453 := zaa.mk (Kd.zcb (by (with_reducible repeat (first | apply Kd.zqa | apply Kd.zpa | apply Kd.zsa)); exact HO453.out) hb); replace HO457 := zaa.mk (Kd.zcb (by (with_reducible repeat (first | apply Kd.zqa | apply Kd.zpa | apply Kd.zsa)); exact HO457.out) hb); replace HO460 := zaa.mk (Kd.zcb (by (with_reducible repeat (first | apply Kd.zqa | apply Kd.zpa | apply Kd.zsa)); exact HO460.out) hb); replace HO467 := zaa.mk (Kd.zcb (by (with_reducible repeat (first | apply Kd.zqa | apply Kd.zpa | apply Kd.zsa)); exact HO467.out) hb); replace HO470 := zaa.mk (Kd.zcb (by (with_reducible repeat (first | apply Kd.zqa | apply Kd.zpa | apply Kd.zsa)); exact HO470.out) hb); replace HO478 := zaa.mk (Kd.N_elder' (by (with_reducible repeat (first | apply Kd.N_alloc | apply Kd.N_drewN | apply Kd.N_drew)); exact HO478.out) (Kd.zxd ho72) hb); replace HO482 := zaa.mk (Kd.zcb (by (with_reducible repeat (first | apply Kd.zqa | apply Kd.zpa | apply Kd.zsa)); exact HO482.out) hb); replace HO485 := zaa.mk (Kd.zcb (by (with_reducible repeat (first | apply Kd.zqa | apply Kd.zpa | apply Kd.zsa)); exact HO485.out) hb); have HO489 := zaa.mk (Kd.znd ho72 (zja (by repeat (first | (with_reducible first | exact HB.out | apply zda | apply zba | apply zca | refine zea ?_ GE445.out | refine zea ?_ GE446.out | refine zea ?_ GE454.out | refine zea ?_ GE479.out) | exact HB.out)))); replace BK445 := zaa.mk (zna (g := gb445) (o := .cells #[.int .u8 a0_0, .int .u8 a0_1, .int .u8 a0_2, .int .u8 a0_3] 22 (0, 0)) (by (with_reducible repeat (first | refine zga ?_ _ | refine zha ?_ | refine zfa ?_ _)); exact BK445.out) hb); replace BK446 := zaa.mk (zna (g := gb446) (o := .cells #[.int .u8 a1_0, .int .u8 a1_1, .int .u8 a1_2] 23 (0, 0)) (by (with_reducible repeat (first | refine zga ?_ _ | refine zha ?_ | refine zfa ?_ _)); exact BK446.out) hb); replace BK454 := zaa.mk (zna (g := gb454) (o := .cells #[.int .i64 t450, .slice Ao37 t451.length co37] 29 (0, 0)) (by (with_reducible repeat (first | refine zga ?_ _ | refine zha ?_ | refine zfa ?_ _)); exact BK454.out) hb); replace BK479 := zaa.mk (zna (g := gb479) (o := .cells #[.int .i64 t450, .int .i64 3, .slice Ao60 y476.length co60] 40 (0, 0)) (by (with_reducible repeat (first | refine zga ?_ _ | refine zha ?_ | refine zfa ?_ _)); exact BK479.out) hb); replace HB := zaa.mk (zma (by repeat (first | (with_reducible first | exact HB.out | apply zda | apply zba | apply zca | refine zea ?_ GE445.out | refine zea ?_ GE446.out | refine zea ?_ GE454.out | refine zea ?_ GE479.out) | exact HB.out)) hb); clear hb ho72; obtain ⟨Ao73, co73, eo73⟩ := Kd.zfd HO489.out; subst eo73) | ((with_reducible refine zxa (f := 9) rfl ?_); refine zhd (some 104) rfl rfl Tryz.func9 (by kernel_rfl) rfl #[.agg #[.int .i64 t450, .int .i64 3, .slice Ao60 y476.length co60], .slice Ao73 y487.length co73, .int .i64 1] rfl (by (try simp only [List.map_toArray, List.map_cons, List.map_nil]); first | done | rfl | (simp only [List.length_drop, List.length_take]; rfl)) ?_; (with_reducible refine (zuc.calls k t450 3 _ _ y476 _ _ y487 1 t490 t493 _ ?side1 ?side2 ?side3 ?side4 A16.out).mono ?_); (case side1 => repeat (first | exact (Kd.N_reads' HO478.out).2.2 | (with_reducible refine Kd.zrb ?_ _) | (with_reducible refine Kd.zqb ?_ _) | (with_reducible refine Kd.zmc ?_))); (case side2 => exact (Kd.N_reads' HO478.out).2.1); (case side3 => repeat (first | exact (Kd.zgb HO489.out).2.2 | (with_reducible refine Kd.zrb ?_ _) | (with_reducible refine Kd.zqb ?_ _) | (with_reducible refine Kd.zmc ?_))); (case side4 => exact (Kd.zgb HO489.out).2.1); rintro e w74 ⟨v491, rfl, ho0, hb⟩; refine ⟨_, rfl, ?_⟩; replace HO449 := zaa.mk (Kd.zcb (by (with_reducible repeat (first | apply Kd.zqa | apply Kd.zpa | apply Kd.zsa)); exact HO449.out) hb); replace HO453 := zaa.mk (Kd.zcb (by (with_reducible repeat (first | apply Kd.zqa | apply Kd.zpa | apply Kd.zsa)); exact HO453.out) hb); replace HO457 := zaa.mk (Kd.zcb (by (with_reducible repeat (first | apply Kd.zqa | apply Kd.zpa | apply Kd.zsa)); exact HO457.out) hb); replace HO460 := zaa.mk (Kd.zcb (by (with_reducible repeat (first | apply Kd.zqa | apply Kd.zpa | apply Kd.zsa)); exact HO460.out) hb); replace HO467 := zaa.mk (Kd.zcb (by (with_reducible repeat (first | apply Kd.zqa | apply Kd.zpa | apply Kd.zsa)); exact HO467.out) hb); replace HO470 := zaa.mk (Kd.zcb (by (with_reducible repeat (first | apply Kd.zqa | apply Kd.zpa | apply Kd.zsa)); exact HO470.out) hb); replace HO478 := zaa.mk (Kd.N_elder' (by (with_reducible repeat (first | apply Kd.N_alloc | apply Kd.N_drewN | apply Kd.N_drew)); exact HO478.out) (Kd.zxd ho0) hb); replace HO482 := zaa.mk (Kd.zcb (by (with_reducible repeat (first | apply Kd.zqa | apply Kd.zpa | apply Kd.zsa)); exact HO482.out) hb); replace HO485 := zaa.mk (Kd.zcb (by (with_reducible repeat (first | apply Kd.zqa | apply Kd.zpa | apply Kd.zsa)); exact HO485.out) hb); replace HO489 := zaa.mk (Kd.zcb (by (with_reducible repeat (first | apply Kd.zqa | apply Kd.zpa | apply Kd.zsa)); exact HO489.out) hb); have HO492 := zaa.mk (Kd.znd ho0 (zja (by repeat (first | (with_reducible first | exact HB.out | apply zda | apply zba | apply zca | refine zea ?_ GE445.out | refine zea ?_ GE446.out | refine zea ?_ GE454.out | refine zea ?_ GE479.out) | exact HB.out)))); replace BK445 := zaa.mk (zna (g := gb445) (o := .cells #[.int .u8 a0_0, .int .u8 a0_1, .int .u8 a0_2, .int .u8 a0_3] 22 (0, 0)) (by (with_reducible repeat (first | refine zga ?_ _ | refine zha ?_ | refine zfa ?_ _)); exact BK445.out) hb); replace BK446 := zaa.mk (zna (g := gb446) (o := .cells #[.int .u8 a1_0, .int .u8 a1_1, .int .u8 a1_2] 23 (0, 0)) (by (with_reducible repeat (first | refine zga ?_ _ | refine zha ?_ | refine zfa ?_ _)); exact BK446.out) hb); replace BK454 := zaa.mk (zna (g := gb454) (o := .cells #[.int .i64 t450, .slice Ao37 t451.length co37] 29 (0, 0)) (by (with_reducible repeat (first | refine zga ?_ _ | refine zha ?_ | refine zfa ?_ _)); exact BK454.out) hb); replace BK479 := zaa.mk (zna (g := gb479) (o := .cells #[.int .i64 t450, .int .i64 3, .slice Ao60 y476.length co60] 40 (0, 0)) (by (with_reducible repeat (first | refine zga ?_ _ | refine zha ?_ | refine zfa ?_ _)); exact BK479.out) hb); replace HB := zaa.mk (zma (by repeat (first | (with_reducible first | exact HB.out | apply zda | apply zba | apply zca | refine zea ?_ GE445.out | refine zea ?_ GE446.out | refine zea ?_ GE454.out | refine zea ?_ GE479.out) | exact HB.out)) hb); (try clear hb); (try clear hb2); (try clear hk); (try clear hi); (try clear ho0)))
                       replace HO449 := zaa.mk (Kd.zsa HO449.out)
                       replace HO453 := zaa.mk (Kd.zsa HO453.out)
                       replace HO457 := zaa.mk (Kd.zsa HO457.out)
                       replace HO460 := zaa.mk (Kd.zsa HO460.out)
                       replace HO467 := zaa.mk (Kd.zsa HO467.out)
                       replace HO470 := zaa.mk (Kd.zsa HO470.out)
                       replace HO478 := zaa.mk (Kd.N_drew HO478.out)
                       replace HO482 := zaa.mk (Kd.zsa HO482.out)
                       replace HO485 := zaa.mk (Kd.zsa HO485.out)
                       replace HO489 := zaa.mk (Kd.zsa HO489.out)
                       replace HO492 := zaa.mk (Kd.zsa HO492.out)
                       replace BK445 := zaa.mk (zha BK445.out)
                       replace BK446 := zaa.mk (zha BK446.out)
                       replace BK454 := zaa.mk (zha BK454.out)
                       replace BK479 := zaa.mk (zha BK479.out)
                       replace HB := zaa.mk (zca HB.out)
                       obtain ⟨Ao76, co76, eo76⟩ := Kd.zfd HO485.out
                       (first | subst eo76 | (injection eo76 with f1_ f2_ f3_; have f4_ := f1_.symm; have f5_ := f3_.symm; clear f1_ f2_ f3_; subst f4_; subst f5_))
                       obtain ⟨Ao77, co77, eo77⟩ := Kd.zfd HO492.out
                       (first | subst eo77 | (injection eo77 with f1_ f2_ f3_; have f4_ := f1_.symm; have f5_ := f3_.symm; clear f1_ f2_ f3_; subst f4_; subst f5_))
                       have p494 : 0 ≤ (0 : Int) := (by omega)
                       have q494 : 0 < (t490.length : Int) := of_decide_eq_true (by first | (with_reducible assumption) | assumption)
                       obtain ⟨ad494, e494, hx494_0, hx494_1⟩ := at_T51 (Kd.zgb HO492.out).2.2 0 p494 q494
                       cases e494
                       have qi494 : (0 < t490.length) = True := eq_true (by omega)
                       (try rw [show ((0 : Int)).toNat = 0 from rfl] at hx494_0)
                       (try rw [show 0 * 2 = 0 from rfl] at hx494_0)
                       (try rw [Addr.add_zero'] at hx494_0)
                       (try rw [show ((0 : Int)).toNat = 0 from rfl] at hx494_1)
                       (try rw [show 0 * 2 = 0 from rfl] at hx494_1)
                       (try rw [Addr.add_zero'] at hx494_1)
                       replace p494 := eq_true p494
                       replace q494 := eq_true q494
                       refine start_ (n := 27) (S := fun w' => w'.cell? ad494 = some (.int .i64 ((rd_T51 t490 0).f0)) ∧ w'.cell? ⟨ad494.block, ad494.off + 1, none⟩ = some (.int .i64 ((rd_T51 t490 0).f1))) (ds := []) #[false, false, false, false, false, false, false, false, false, false, false, false, false, false, false, false, false, false, false, false, false, false, false, false, false, false, false] (by kernel_rfl) rfl rfl ⟨hx494_0, hx494_1⟩ (fun hHeld => ?_); refine with_tabW zia.tab11 zia.bits11 (fun HT_ HW_ => ?_)
                       generalize w74.drew = w75 at HO449 HO453 HO457 HO460 HO467 HO470 HO478 HO482 HO485 HO489 HO492 BK445 BK446 BK454 BK479 HB hx494_0 hx494_1 hHeld ⊢
                       refine zxc (i := 0) (N := some 107) (v := ?_) (a' := ?_) #[true, false, false, false, false, false, false, false, false, false, false, false, false, false, false, false, false, false, false, false, false, false, false, false, false, false, false] rfl rfl (zyb HT_.out (by kernel_rfl)) (fun _ _ _ h => h) (Or.inl ⟨by rfl, ?_⟩) ?_ ?_
                       rotate_left
                       · intro w'
                         go_simp
                         with_reducible rfl
                       rotate_left
                       · simp only [Act.put, List.setIfInBounds_toArray, List.set_cons_zero, List.set_cons_succ, zpb, zzb]
                         rfl
                       refine zxc (i := 1) (N := some 108) (v := ?_) (a' := ?_) #[true, true, false, false, false, false, false, false, false, false, false, false, false, false, false, false, false, false, false, false, false, false, false, false, false, false, false] rfl rfl (zyb HT_.out (by kernel_rfl)) (fun _ _ _ h => h) (Or.inl ⟨by rfl, ?_⟩) ?_ ?_
                       rotate_left
                       · intro w'
                         go_simp
                         with_reducible rfl
                       rotate_left
                       · simp only [Act.put, List.setIfInBounds_toArray, List.set_cons_zero, List.set_cons_succ, zpb, zzb]
                         rfl
                       refine zxc (i := 2) (N := some 109) (v := ?_) (a' := ?_) #[true, true, true, false, false, false, false, false, false, false, false, false, false, false, false, false, false, false, false, false, false, false, false, false, false, false, false] rfl rfl (zyb HT_.out (by kernel_rfl)) (fun _ _ _ h => h) (Or.inl ⟨by rfl, ?_⟩) ?_ ?_
                       rotate_left
                       · intro w'
                         go_simp
                         with_reducible rfl
                       rotate_left
                       · simp only [Act.put, List.setIfInBounds_toArray, List.set_cons_zero, List.set_cons_succ, zpb, zzb]
                         rfl
                       refine zxc (i := 3) (N := some 110) (v := ?_) (a' := ?_) #[true, true, true, true, false, false, false, false, false, false, false, false, false, false, false, false, false, false, false, false, false, false, false, false, false, false, false] rfl rfl (zyb HT_.out (by kernel_rfl)) (fun _ _ _ h => h) (Or.inl ⟨by rfl, ?_⟩) ?_ ?_
                       rotate_left
                       · intro w'
                         go_simp
                         with_reducible rfl
                       rotate_left
                       · simp only [Act.put, List.setIfInBounds_toArray, List.set_cons_zero, List.set_cons_succ, zpb, zzb]
                         rfl
                       refine zxc (i := 4) (N := some 111) (v := ?_) (a' := ?_) #[true, true, true, true, true, false, false, false, false, false, false, false, false, false, false, false, false, false, false, false, false, false, false, false, false, false, false] rfl rfl (zyb HT_.out (by kernel_rfl)) (fun _ _ _ h => h) (Or.inl ⟨by rfl, ?_⟩) ?_ ?_
                       rotate_left
                       · intro w'
                         go_simp
                         with_reducible rfl
                       rotate_left
                       · simp only [Act.put, List.setIfInBounds_toArray, List.set_cons_zero, List.set_cons_succ, zpb, zzb]
                         rfl
                       refine zxc (i := 5) (N := some 112) (v := ?_) (a' := ?_) #[true, true, true, true, true, true, false, false, false, false, false, false, false, false, false, false, false, false, false, false, false, false, false, false, false, false, false] rfl rfl (zyb HT_.out (by kernel_rfl)) (fun _ _ _ h => h) (Or.inl ⟨by rfl, ?_⟩) ?_ ?_
                       rotate_left
                       · intro w'
                         go_simp
                         with_reducible rfl
                       rotate_left
                       · simp only [Act.put, List.setIfInBounds_toArray, List.set_cons_zero, List.set_cons_succ, zpb, zzb]
                         rfl
                       refine zxc (i := 6) (N := some 113) (v := ?_) (a' := ?_) #[true, true, true, true, true, true, true, false, false, false, false, false, false, false, false, false, false, false, false, false, false, false, false, false, false, false, false] rfl rfl (zyb HT_.out (by kernel_rfl)) (fun _ _ _ h => h) (Or.inl ⟨by rfl, ?_⟩) ?_ ?_
                       rotate_left
                       · intro w'
                         go_simp
                         with_reducible rfl
                       rotate_left
                       · simp only [Act.put, List.setIfInBounds_toArray, List.set_cons_zero, List.set_cons_succ, zpb, zzb]
                         rfl
                       refine zxc (i := 7) (N := some 114) (v := ?_) (a' := ?_) #[true, true, true, true, true, true, true, true, false, false, false, false, false, false, false, false, false, false, false, false, false, false, false, false, false, false, false] rfl rfl (zyb HT_.out (by kernel_rfl)) (fun _ _ _ h => h) (Or.inl ⟨by rfl, ?_⟩) ?_ ?_
                       rotate_left
                       · intro w'
                         go_simp
                         with_reducible rfl
                       rotate_left
                       · simp only [Act.put, List.setIfInBounds_toArray, List.set_cons_zero, List.set_cons_succ, zpb, zzb]
                         rfl
                       refine zxc (i := 8) (N := some 115) (v := ?_) (a' := ?_) #[true, true, true, true, true, true, true, true, true, false, false, false, false, false, false, false, false, false, false, false, false, false, false, false, false, false, false] rfl rfl (zyb HT_.out (by kernel_rfl)) (fun _ _ _ h => h) (Or.inl ⟨by rfl, ?_⟩) ?_ ?_
                       rotate_left
                       · intro w'
                         go_simp
                         with_reducible rfl
                       rotate_left
                       · simp only [Act.put, List.setIfInBounds_toArray, List.set_cons_zero, List.set_cons_succ, zpb, zzb]
                         rfl
                       refine zxc (i := 9) (N := some 116) (v := ?_) (a' := ?_) #[true, true, true, true, true, true, true, true, true, true, false, false, false, false, false, false, false, false, false, false, false, false, false, false, false, false, false] rfl rfl (zyb HT_.out (by kernel_rfl)) (fun _ _ _ h => h) (Or.inl ⟨by rfl, ?_⟩) ?_ ?_
                       rotate_left
                       · intro w'
                         go_simp
                         with_reducible rfl
                       rotate_left
                       · simp only [Act.put, List.setIfInBounds_toArray, List.set_cons_zero, List.set_cons_succ, zpb, zzb]
                         rfl
                       refine zxc (i := 10) (N := some 117) (v := ?_) (a' := ?_) #[true, true, true, true, true, true, true, true, true, true, true, false, false, false, false, false, false, false, false, false, false, false, false, false, false, false, false] rfl rfl (zyb HT_.out (by kernel_rfl)) (fun _ _ _ h => h) (Or.inl ⟨by rfl, ?_⟩) ?_ ?_
                       rotate_left
                       · intro w'
                         go_simp
                         with_reducible rfl
                       rotate_left
                       · simp only [Act.put, List.setIfInBounds_toArray, List.set_cons_zero, List.set_cons_succ, zpb, zzb]
                         rfl
                       refine zxc (i := 11) (N := some 118) (v := ?_) (a' := ?_) #[true, true, true, true, true, true, true, true, true, true, true, true, false, false, false, false, false, false, false, false, false, false, false, false, false, false, false] rfl rfl (zyb HT_.out (by kernel_rfl)) (fun _ _ _ h => h) (Or.inl ⟨by rfl, ?_⟩) ?_ ?_
                       rotate_left
                       · intro w'
                         go_simp
                         with_reducible rfl
                       rotate_left
                       · simp only [Act.put, List.setIfInBounds_toArray, List.set_cons_zero, List.set_cons_succ, zpb, zzb]
                         rfl
                       refine zxc (i := 12) (N := some 119) (v := ?_) (a' := ?_) #[true, true, true, true, true, true, true, true, true, true, true, true, true, false, false, false, false, false, false, false, false, false, false, false, false, false, false] rfl rfl (zyb HT_.out (by kernel_rfl)) (fun _ _ _ h => h) (Or.inl ⟨by rfl, ?_⟩) ?_ ?_
                       rotate_left
                       · intro w'
                         go_simp
                         with_reducible rfl
                       rotate_left
                       · simp only [Act.put, List.setIfInBounds_toArray, List.set_cons_zero, List.set_cons_succ, zpb, zzb]
                         rfl
                       refine zxc (i := 13) (N := some 120) (v := ?_) (a' := ?_) #[true, true, true, true, true, true, true, true, true, true, true, true, true, true, false, false, false, false, false, false, false, false, false, false, false, false, false] rfl rfl (zyb HT_.out (by kernel_rfl)) (fun _ _ _ h => h) (Or.inl ⟨by rfl, ?_⟩) ?_ ?_
                       rotate_left
                       · intro w'
                         go_simp
                         with_reducible rfl
                       rotate_left
                       · simp only [Act.put, List.setIfInBounds_toArray, List.set_cons_zero, List.set_cons_succ, zpb, zzb]
                         rfl
                       refine zxc (i := 14) (N := some 121) (v := ?_) (a' := ?_) #[true, true, true, true, true, true, true, true, true, true, true, true, true, true, true, false, false, false, false, false, false, false, false, false, false, false, false] rfl rfl (zyb HT_.out (by kernel_rfl)) (fun _ _ _ h => h) (Or.inl ⟨by rfl, ?_⟩) ?_ ?_
                       rotate_left
                       · intro w'
                         go_simp
                         with_reducible rfl
                       rotate_left
                       · simp only [Act.put, List.setIfInBounds_toArray, List.set_cons_zero, List.set_cons_succ, zpb, zzb]
                         rfl
                       refine zxc (i := 15) (N := some 122) (v := ?_) (a' := ?_) #[true, true, true, true, true, true, true, true, true, true, true, true, true, true, true, true, false, false, false, false, false, false, false, false, false, false, false] rfl rfl (zyb HT_.out (by kernel_rfl)) (fun _ _ _ h => h) (Or.inl ⟨by rfl, ?_⟩) ?_ ?_
                       rotate_left
                       · intro w'
                         go_simp
                         with_reducible rfl
                       rotate_left
                       · simp only [Act.put, List.setIfInBounds_toArray, List.set_cons_zero, List.set_cons_succ, zpb, zzb]
                         rfl
                       refine zxc (i := 16) (N := some 123) (v := ?_) (a' := ?_) #[true, true, true, true, true, true, true, true, true, true, true, true, true, true, true, true, true, false, false, false, false, false, false, false, false, false, false] rfl rfl (zyb HT_.out (by kernel_rfl)) (fun _ _ _ h => h) (Or.inl ⟨by rfl, ?_⟩) ?_ ?_
                       rotate_left
                       · intro w'
                         go_simp
                         with_reducible rfl
                       rotate_left
                       · simp only [Act.put, List.setIfInBounds_toArray, List.set_cons_zero, List.set_cons_succ, zpb, zzb]
                         rfl
                       refine zxc (i := 17) (N := some 124) (v := ?_) (a' := ?_) #[true, true, true, true, true, true, true, true, true, true, true, true, true, true, true, true, true, true, false, false, false, false, false, false, false, false, false] rfl rfl (zyb HT_.out (by kernel_rfl)) (fun _ _ _ h => h) (Or.inl ⟨by rfl, ?_⟩) ?_ ?_
                       rotate_left
                       · intro w'
                         go_simp
                         with_reducible rfl
                       rotate_left
                       · simp only [Act.put, List.setIfInBounds_toArray, List.set_cons_zero, List.set_cons_succ, zpb, zzb]
                         rfl
                       refine zxc (i := 18) (N := some 125) (v := ?_) (a' := ?_) #[true, true, true, true, true, true, true, true, true, true, true, true, true, true, true, true, true, true, true, false, false, false, false, false, false, false, false] rfl rfl (zyb HT_.out (by kernel_rfl)) (fun _ _ _ h => h) (Or.inl ⟨by rfl, ?_⟩) ?_ ?_
                       rotate_left
                       · intro w'
                         go_simp
                         with_reducible rfl
                       rotate_left
                       · simp only [Act.put, List.setIfInBounds_toArray, List.set_cons_zero, List.set_cons_succ, zpb, zzb]
                         rfl
                       refine zxc (i := 20) (N := some 127) (v := ?_) (a' := ?_) #[true, true, true, true, true, true, true, true, true, true, true, true, true, true, true, true, true, true, true, false, true, false, false, false, false, false, false] rfl rfl (zyb HT_.out (by kernel_rfl)) (fun _ _ _ h => h) (Or.inl ⟨by rfl, ?_⟩) ?_ ?_
                       rotate_left
                       · intro w'
                         go_simp
                         with_reducible rfl
                       rotate_left
                       · simp only [Act.put, List.setIfInBounds_toArray, List.set_cons_zero, List.set_cons_succ, zpb, zzb]
                         rfl
                       refine zxc (i := 22) (N := some 129) (v := ?_) (a' := ?_) #[true, true, true, true, true, true, true, true, true, true, true, true, true, true, true, true, true, true, true, false, true, false, true, false, false, false, false] rfl rfl (zyb HT_.out (by kernel_rfl)) (fun _ _ _ h => h) (Or.inl ⟨by rfl, ?_⟩) ?_ ?_
                       rotate_left
                       · intro w'
                         go_simp
                         with_reducible rfl
                       rotate_left
                       · simp only [Act.put, List.setIfInBounds_toArray, List.set_cons_zero, List.set_cons_succ, zpb, zzb]
                         rfl
                       refine take_ (i := 19) (N := some 126) (v := ?_) (a' := ?_) #[true, true, true, true, true, true, true, true, true, true, true, true, true, true, true, true, true, true, true, true, true, false, true, false, false, false, false] rfl rfl (zge HT_.out HW_.out (by kernel_rfl)) (fun _ _ _ h => h) (Or.inl ⟨by rfl, ?_⟩) hHeld ?_ ?_
                       rotate_left
                       · rintro w' ⟨s0, s1⟩
                         go_simp
                         with_reducible rfl
                       rotate_left
                       · simp only [Act.put, List.setIfInBounds_toArray, List.set_cons_zero, List.set_cons_succ, zpb, zzb]
                         rfl
                       refine one_ (i := 21) (N := some 128) #[true, true, true, true, true, true, true, true, true, true, true, true, true, true, true, true, true, true, true, true, true, true, true, false, false, false, false] rfl rfl (one_of HT_.out (by kernel_rfl)) (by decide) (fun K hK => ?_)
                       refine goes_ Tryz.func11 (by kernel_rfl) rfl #[.slice Ao55 t468.length co55] (by rfl) rfl rfl (by (try simp only [List.map_toArray, List.map_cons, List.map_nil]); first | done | rfl | (simp only [List.length_drop, List.length_take]; rfl)) ?_
                       with_reducible refine (zoa.calls k _ _ t468 t495 _ ?side1 ?side2 A22.out).mono ?_
                       (case side1 => repeat (first | exact (Kd.zgb HO470.out).2.2 | (with_reducible refine Kd.zrb ?_ _) | (with_reducible refine Kd.zqb ?_ _) | (with_reducible refine Kd.zmc ?_)))
                       (case side2 => exact (Kd.zgb HO470.out).2.1)
                       rintro e w' ⟨rfl, ⟨nd, rfl⟩⟩
                       refine ⟨_, rfl, ?_⟩
                       refine hK.out _ _ ⟨hHeld.1, hHeld.2⟩ (fun hHeld => ?_)
                       clear hK K
                       refine norm_ (a' := ?_) ?_ ?_
                       rotate_left
                       · show Act.put _ (some 128) _ = _
                         simp only [Act.put, List.setIfInBounds_toArray, List.set_cons_zero, List.set_cons_succ, zpb, zzb]
                         rfl
                       refine one_ (i := 23) (N := some 130) #[true, true, true, true, true, true, true, true, true, true, true, true, true, true, true, true, true, true, true, true, true, true, true, true, false, false, false] rfl rfl (one_of HT_.out (by kernel_rfl)) (by decide) (fun K hK => ?_)
                       refine goes_ Tryz.func11 (by kernel_rfl) rfl #[.slice Ao55 t468.length co55] (by rfl) rfl rfl (by (try simp only [List.map_toArray, List.map_cons, List.map_nil]); first | done | rfl | (simp only [List.length_drop, List.length_take]; rfl)) ?_
                       with_reducible refine (zoa.calls k _ _ t468 t496 _ ?side1 ?side2 A23.out).mono ?_
                       (case side1 => repeat (first | exact (Kd.zgb HO470.out).2.2 | (with_reducible refine Kd.zrb ?_ _) | (with_reducible refine Kd.zqb ?_ _) | (with_reducible refine Kd.zmc ?_)))
                       (case side2 => exact (Kd.zgb HO470.out).2.1)
                       rintro e w' ⟨rfl, ⟨nd, rfl⟩⟩
                       refine ⟨_, rfl, ?_⟩
                       refine hK.out _ _ ⟨hHeld.1, hHeld.2⟩ (fun hHeld => ?_)
                       clear hK K
                       refine norm_ (a' := ?_) ?_ ?_
                       rotate_left
                       · show Act.put _ (some 130) _ = _
                         simp only [Act.put, List.setIfInBounds_toArray, List.set_cons_zero, List.set_cons_succ, zpb, zzb]
                         rfl
                       refine one_ (i := 24) (N := some 131) #[true, true, true, true, true, true, true, true, true, true, true, true, true, true, true, true, true, true, true, true, true, true, true, true, true, false, false] rfl rfl (one_of HT_.out (by kernel_rfl)) (by decide) (fun K hK => ?_)
                       refine goes_ Tryz.func10 (by kernel_rfl) rfl #[.int .i64 t495, .int .i64 t496] (by rfl) rfl rfl (by (try simp only [List.map_toArray, List.map_cons, List.map_nil]); first | done | rfl | (simp only [List.length_drop, List.length_take]; rfl)) ?_
                       with_reducible refine (ztb.calls t495 t496 t497 t498 _ A24.out).mono ?_
                       rintro e w78 ⟨rfl, hb⟩
                       have HS0_ := (hb.cell (World.block_lt_of_cell? _ _ (hHeld.1))).trans (hHeld.1)
                       have HS1_ := (hb.cell (World.block_lt_of_cell? _ _ (hHeld.2))).trans (hHeld.2)
                       refine ⟨_, rfl, ?_⟩
                       replace HO449 := zaa.mk (Kd.zcb (by (with_reducible repeat (first | apply Kd.zqa | apply Kd.zpa | apply Kd.zsa)); exact HO449.out) hb)
                       replace HO453 := zaa.mk (Kd.zcb (by (with_reducible repeat (first | apply Kd.zqa | apply Kd.zpa | apply Kd.zsa)); exact HO453.out) hb)
                       replace HO457 := zaa.mk (Kd.zcb (by (with_reducible repeat (first | apply Kd.zqa | apply Kd.zpa | apply Kd.zsa)); exact HO457.out) hb)
                       replace HO460 := zaa.mk (Kd.zcb (by (with_reducible repeat (first | apply Kd.zqa | apply Kd.zpa | apply Kd.zsa)); exact HO460.out) hb)
                       replace HO467 := zaa.mk (Kd.zcb (by (with_reducible repeat (first | apply Kd.zqa | apply Kd.zpa | apply Kd.zsa)); exact HO467.out) hb)
                       replace HO470 := zaa.mk (Kd.zcb (by (with_reducible repeat (first | apply Kd.zqa | apply Kd.zpa | apply Kd.zsa)); exact HO470.out) hb)
                       replace HO478 := zaa.mk (Kd.N_below (by (with_reducible repeat (first | apply Kd.N_alloc | apply Kd.N_drewN | apply Kd.N_drew)); exact HO478.out) hb)
                       replace HO482 := zaa.mk (Kd.zcb (by (with_reducible repeat (first | apply Kd.zqa | apply Kd.zpa | apply Kd.zsa)); exact HO482.out) hb)
                       replace HO485 := zaa.mk (Kd.zcb (by (with_reducible repeat (first | apply Kd.zqa | apply Kd.zpa | apply Kd.zsa)); exact HO485.out) hb)
                       replace HO489 := zaa.mk (Kd.zcb (by (with_reducible repeat (first | apply Kd.zqa | apply Kd.zpa | apply Kd.zsa)); exact HO489.out) hb)
                       replace HO492 := zaa.mk (Kd.zcb (by (with_reducible repeat (first | apply Kd.zqa | apply Kd.zpa | apply Kd.zsa)); exact HO492.out) hb)
                       replace BK445 := zaa.mk (zna (g := gb445) (o := .cells #[.int .u8 a0_0, .int .u8 a0_1, .int .u8 a0_2, .int .u8 a0_3] 22 (0, 0)) (by (with_reducible repeat (first | refine zga ?_ _ | refine zha ?_ | refine zfa ?_ _)); exact BK445.out) hb)
                       replace BK446 := zaa.mk (zna (g := gb446) (o := .cells #[.int .u8 a1_0, .int .u8 a1_1, .int .u8 a1_2] 23 (0, 0)) (by (with_reducible repeat (first | refine zga ?_ _ | refine zha ?_ | refine zfa ?_ _)); exact BK446.out) hb)
                       replace BK454 := zaa.mk (zna (g := gb454) (o := .cells #[.int .i64 t450, .slice Ao37 t451.length co37] 29 (0, 0)) (by (with_reducible repeat (first | refine zga ?_ _ | refine zha ?_ | refine zfa ?_ _)); exact BK454.out) hb)
                       replace BK479 := zaa.mk (zna (g := gb479) (o := .cells #[.int .i64 t450, .int .i64 3, .slice Ao60 y476.length co60] 40 (0, 0)) (by (with_reducible repeat (first | refine zga ?_ _ | refine zha ?_ | refine zfa ?_ _)); exact BK479.out) hb)
                       replace HB := zaa.mk (zma (by repeat (first | (with_reducible first | exact HB.out | apply zda | apply zba | apply zca | refine zea ?_ GE445.out | refine zea ?_ GE446.out | refine zea ?_ GE454.out | refine zea ?_ GE479.out) | exact HB.out)) hb)
                       (try clear hb)
                       (try clear hb2)
                       (try clear hk)
                       (try clear hi)
                       refine hK.out _ _ ⟨HS0_, HS1_⟩ (fun hHeld => ?_)
                       clear hK K
                       refine norm_ (a' := ?_) ?_ ?_
                       rotate_left
                       · show Act.put _ (some 131) _ = _
                         simp only [Act.put, List.setIfInBounds_toArray, List.set_cons_zero, List.set_cons_succ, zpb, zzb]
                         rfl
                       refine zxc (i := 25) (N := some 132) (v := ?_) (a' := ?_) #[true, true, true, true, true, true, true, true, true, true, true, true, true, true, true, true, true, true, true, true, true, true, true, true, true, true, false] rfl rfl (zyb HT_.out (by kernel_rfl)) (fun _ _ _ h => h) (Or.inl ⟨by rfl, ?_⟩) ?_ ?_
                       rotate_left
                       · intro w'
                         go_simp
                         with_reducible rfl
                       rotate_left
                       · simp only [Act.put, List.setIfInBounds_toArray, List.set_cons_zero, List.set_cons_succ, zpb, zzb]
                         rfl
                       refine zxc (i := 26) (N := some 133) (v := ?_) (a' := ?_) #[true, true, true, true, true, true, true, true, true, true, true, true, true, true, true, true, true, true, true, true, true, true, true, true, true, true, true] rfl rfl (zyb HT_.out (by kernel_rfl)) (fun _ _ _ h => h) (Or.inl ⟨by rfl, ?_⟩) ?_ ?_
                       rotate_left
                       · intro w'
                         go_simp
                         with_reducible rfl
                       rotate_left
                       · simp only [Act.put, List.setIfInBounds_toArray, List.set_cons_zero, List.set_cons_succ, zpb, zzb]
                         rfl
                       refine done_ (done_of HT_.out (by kernel_rfl)) ?_
                       try go_wp2_with (first | ((with_reducible refine zbb (N := 134) rfl ?_); (try (refine zid (by rfl) ?_; dsimp only)); refine Kd.R_lit k59 _ 59 ?hg (N := 134) ?hd (xs := ([] : List (S59))) (inner := []) (ok := fun _ => True) (okp := fun _ => True) ?hr ?hp (fun _ hk => hk) trivial (Below.refl _ _) (Nat.le_refl _) (by simp) ?_; (case hd => rfl); (case hg => rfl); (case hr => first | (go_simp; done) | (go_simp; rfl)); (case hp => exact (Reps.none _ _)); intro v500 w79 ho80 hb hg_ hnew_; clear hg_ hnew_; (first | rw [← Ny499.out] at ho80 | (simp only [Int.reduceToNat] at ho80; rw [← Ny499.out] at ho80)); replace HO449 := zaa.mk (Kd.zcb (by (with_reducible repeat (first | apply Kd.zqa | apply Kd.zpa | apply Kd.zsa)); exact HO449.out) hb); replace HO453 := zaa.mk (Kd.zcb (by (with_reducible repeat (first | apply Kd.zqa | apply Kd.zpa | apply Kd.zsa)); exact HO453.out) hb); replace HO457 := zaa.mk (Kd.zcb (by (with_reducible repeat (first | apply Kd.zqa | apply Kd.zpa | apply Kd.zsa)); exact HO457.out) hb); replace HO460 := zaa.mk (Kd.zcb (by (with_reducible repeat (first | apply Kd.zqa | apply Kd.zpa | apply Kd.zsa)); exact HO460.out) hb); replace HO467 := zaa.mk (Kd.zcb (by (with_reducible repeat (first | apply Kd.zqa | apply Kd.zpa | apply Kd.zsa)); exact HO467.out) hb); replace HO470 := zaa.mk (Kd.zcb (by (with_reducible repeat (first | apply Kd.zqa | apply Kd.zpa | apply Kd.zsa)); exact HO470.out) hb); replace HO478 := zaa.mk (Kd.N_elder' (by (with_reducible repeat (first | apply Kd.N_alloc | apply Kd.N_drewN | apply Kd.N_drew)); exact HO478.out) (Kd.zxd ho80) hb); replace HO482 := zaa.mk (Kd.zcb (by (with_reducible repeat (first | apply Kd.zqa | apply Kd.zpa | apply Kd.zsa)); exact HO482.out) hb); replace HO485 := zaa.mk (Kd.zcb (by (with_reducible repeat (first | apply Kd.zqa | apply Kd.zpa | apply Kd.zsa)); exact HO485.out) hb); replace HO489 := zaa.mk (Kd.zcb (by (with_reducible repeat (first | apply Kd.zqa | apply Kd.zpa | apply Kd.zsa)); exact HO489.out) hb); replace HO492 := zaa.mk (Kd.zcb (by (with_reducible repeat (first | apply Kd.zqa | apply Kd.zpa | apply Kd.zsa)); exact HO492.out) hb); have HO501 := zaa.mk (Kd.znd ho80 (zja (by repeat (first | (with_reducible first | exact HB.out | apply zda | apply zba | apply zca | refine zea ?_ GE445.out | refine zea ?_ GE446.out | refine zea ?_ GE454.out | refine zea ?_ GE479.out) | exact HB.out)))); replace BK445 := zaa.mk (zna (g := gb445) (o := .cells #[.int .u8 a0_0, .int .u8 a0_1, .int .u8 a0_2, .int .u8 a0_3] 22 (0, 0)) (by (with_reducible repeat (first | refine zga ?_ _ | refine zha ?_ | refine zfa ?_ _)); exact BK445.out) hb); replace BK446 := zaa.mk (zna (g := gb446) (o := .cells #[.int .u8 a1_0, .int .u8 a1_1, .int .u8 a1_2] 23 (0, 0)) (by (with_reducible repeat (first | refine zga ?_ _ | refine zha ?_ | refine zfa ?_ _)); exact BK446.out) hb); replace BK454 := zaa.mk (zna (g := gb454) (o := .cells #[.int .i64 t450, .slice Ao37 t451.length co37] 29 (0, 0)) (by (with_reducible repeat (first | refine zga ?_ _ | refine zha ?_ | refine zfa ?_ _)); exact BK454.out) hb); replace BK479 := zaa.mk (zna (g := gb479) (o := .cells #[.int .i64 t450, .int .i64 3, .slice Ao60 y476.length co60] 40 (0, 0)) (by (with_reducible repeat (first | refine zga ?_ _ | refine zha ?_ | refine zfa ?_ _)); exact BK479.out) hb); replace HB := zaa.mk (zma (by repeat (first | (with_reducible first | exact HB.out | apply zda | apply zba | apply zca | refine zea ?_ GE445.out | refine zea ?_ GE446.out | refine zea ?_ GE454.out | refine zea ?_ GE479.out) | exact HB.out)) hb); clear hb ho80))
                       go_loopg [22, 23] k (fun kq v22 v23 w' => ∃ (x22_1 : List (S59)) (x23_1 : Int), v23 = .int .i64 x23_1 ∧ zaa (zia.l0 kq t450 (Int.tmod (wrap64 (a1_2)) 4) (Int.tmod (wrap64 (a2)) 8) t483 x22_1 x23_1 t450 t451 = some r) ∧ zaa (kq ≤ k) ∧ zaa (Kd.R Kd.string 9 w' w.heap.size (fun _ => True) (.slice Ao76 t483.length co76) t483) ∧ zaa (Kd.R k59 59 w' w.heap.size (fun _ => True) v22 x22_1) ∧ zaa (Kd.R (Kd.int .i64) 3 w' w.heap.size (fun _ => True) (.slice Ao37 t451.length co37) t451) ∧ zaa (Kd.N (Kd.slice 3 (Kd.int .i64)) 24 w' w.heap.size (fun k_ => some k_ ≠ ((.slice Ao76 t483.length co76) : Value).ownBlock ∧ some k_ ≠ (v22 : Value).ownBlock ∧ some k_ ≠ ((.slice Ao37 t451.length co37) : Value).ownBlock ∧ k_ ≠ gb445 ∧ k_ ≠ gb446 ∧ k_ ≠ gb454 ∧ k_ ≠ gb479) (.slice Ao60 y476.length co60) y476) ∧ zaa (w'.heap[gb445]? = some (.cells #[.int .u8 a0_0, .int .u8 a0_1, .int .u8 a0_2, .int .u8 a0_3] 22 (0, 0))) ∧ zaa (w'.heap[gb446]? = some (.cells #[.int .u8 a1_0, .int .u8 a1_1, .int .u8 a1_2] 23 (0, 0))) ∧ zaa (w'.heap[gb454]? = some (.cells #[.int .i64 t450, (.slice Ao37 t451.length co37)] 29 (0, 0))) ∧ zaa (w'.heap[gb479]? = some (.cells #[.int .i64 t450, .int .i64 3, (.slice Ao60 y476.length co60)] 40 (0, 0))) ∧ zaa (Below w.heap.size w w'))
                       case atStart => exact ⟨(y499), (0), (by first | rfl | (simp; done) | (simp [*]; done)), H', ⟨Nat.le_refl _⟩, ⟨by (with_reducible repeat (first | apply Kd.zqa | apply Kd.zpa | apply Kd.zsa)); exact HO485.out⟩, ⟨by (with_reducible repeat (first | apply Kd.zqa | apply Kd.zpa | apply Kd.zsa)); exact HO501.out⟩, ⟨by (with_reducible repeat (first | apply Kd.zqa | apply Kd.zpa | apply Kd.zsa)); exact Kd.zsd HO453.out (fun _ hk => trivial)⟩, ⟨by (with_reducible repeat (first | apply Kd.N_alloc | apply Kd.N_drewN | apply Kd.N_drew)); exact Kd.N_mono HO478.out (fun _ hk => ⟨hk.1.1.1.2, ⟨hk.2, ⟨hk.1.1.1.1.1.1.2.1, ⟨hk.1.1.1.1.1.1.2.2.2.2.2.2.1, ⟨hk.1.1.1.1.1.1.2.2.2.2.2.2.2.1, ⟨hk.1.1.1.1.1.1.2.2.2.2.2.2.2.2, hk.1.1.1.1.1.2⟩⟩⟩⟩⟩⟩)⟩, ⟨by (with_reducible repeat (first | refine zga ?_ _ | refine zha ?_ | refine zfa ?_ _)); exact BK445.out⟩, ⟨by (with_reducible repeat (first | refine zga ?_ _ | refine zha ?_ | refine zfa ?_ _)); exact BK446.out⟩, ⟨by (with_reducible repeat (first | refine zga ?_ _ | refine zha ?_ | refine zfa ?_ _)); exact BK454.out⟩, ⟨by (with_reducible repeat (first | refine zga ?_ _ | refine zha ?_ | refine zfa ?_ _)); exact BK479.out⟩, ⟨by repeat (first | (with_reducible first | exact HB.out | apply zda | apply zba | apply zca | refine zea ?_ GE445.out | refine zea ?_ GE446.out | refine zea ?_ GE454.out | refine zea ?_ GE479.out) | exact HB.out)⟩⟩
                       case round =>
                        clear H'
                        try clear c1
                        try clear c2
                        try clear p2
                        try clear c3
                        try clear c4
                        try clear p4
                        try clear q4
                        try clear hx4
                        try clear qi4
                        try clear c5
                        try clear c6
                        try clear p6
                        try clear c7
                        try clear c8
                        try clear c9
                        try clear c10
                        try clear c11
                        try clear c44
                        try clear p49
                        try clear q49
                        try clear hx49
                        try clear qi49
                        try clear c62
                        try clear c63
                        try clear c64
                        try clear p64
                        try clear hcz41_2
                        try clear hcz45_0
                        try clear hcz45_1
                        try clear hcz65_0
                        try clear hcz65_1
                        try clear hcz65_2
                        try clear hcz70_0
                        try clear hcz70_1
                        try clear hcz70_2
                        try clear hfz41_0
                        try clear hfz41_1
                        try clear hfz41_2
                        try clear hfz45_0
                        try clear hfz45_1
                        try clear hfz65_0
                        try clear hfz65_1
                        try clear hfz65_2
                        try clear hfz70_0
                        try clear hfz70_1
                        try clear hfz70_2
                        try clear hx494_0
                        try clear hx494_1
                        try clear p494
                        try clear q494
                        obtain ⟨x22_1, x23_1, rfl, HA, HK1, HO_18, HO_22, HO_455001, HO_480002, BK445, BK446, BK454, BK479, HB⟩ := hrel
                        cases gk with
                        | zero => exact absurd HA.out (by simp [zia.l0])
                        | succ k1 =>
                         have H := HA.out
                         clear HA
                         simp only [zia.l0] at H
                         by_cases c81 : x23_1 < 3
                         · rw [if_pos c81] at H
                           have c81b0 : decide (x23_1 < 3) = true := decide_eq_true c81
                           clear c81
                           by_cases c82 : 0 ≤ x23_1
                           · rw [if_pos c82] at H
                             have c82b0 : decide (0 ≤ x23_1) = true := decide_eq_true c82
                             clear c82
                             by_cases c83 : x23_1 < (t483.length : Int)
                             · rw [if_pos c83] at H
                               have c83b0 : decide (x23_1 < (t483.length : Int)) = true := decide_eq_true c83
                               clear c83
                               by_cases c84 : ((rdOf ByteArray.empty t483 x23_1).size : Int) = t450
                               · rw [if_pos c84] at H
                                 have c84b0 : (((rdOf ByteArray.empty t483 x23_1).size : Int) == t450) = true := beq_iff_eq.mpr c84
                                 have c84b1 : (((rdOf ByteArray.empty t483 x23_1).size : Int) != t450) = false := bne_eq_false_iff_eq.mpr c84
                                 clear c84
                                 have H' := zaa.mk H
                                 clear H
                                 have p512 : 0 ≤ (x23_1 : Int) := of_decide_eq_true (by first | (with_reducible assumption) | assumption)
                                 have q512 : x23_1 < (t483.length : Int) := of_decide_eq_true (by first | (with_reducible assumption) | assumption)
                                 obtain ⟨ad512, e512, hx512_0⟩ := Kd.at_string (Kd.zgb HO_18.out).2.2 x23_1 p512 q512
                                 cases e512
                                 replace p512 := eq_true p512
                                 replace q512 := eq_true q512
                                 go_wp2
                                 go_loopg [22, 24] k1 (fun kq v22 v24 w' => ∃ (x22_2 : List (S59)) (x24_2 : Int), v24 = .int .i64 x24_2 ∧ zaa (zia.l1 kq t450 (Int.tmod (wrap64 (a1_2)) 4) (Int.tmod (wrap64 (a2)) 8) t483 x22_2 x23_1 x24_2 t450 t451 = some r) ∧ zaa (kq ≤ k1) ∧ zaa (Kd.R Kd.string 9 w' w.heap.size (fun _ => True) (.slice (some ad512) t483.length co76) t483) ∧ zaa (Kd.R k59 59 w' w.heap.size (fun _ => True) v22 x22_2) ∧ zaa (Kd.R (Kd.int .i64) 3 w' w.heap.size (fun _ => True) (.slice Ao37 t451.length co37) t451) ∧ zaa (Kd.N (Kd.slice 3 (Kd.int .i64)) 24 w' w.heap.size (fun k_ => some k_ ≠ ((.slice (some ad512) t483.length co76) : Value).ownBlock ∧ some k_ ≠ (v22 : Value).ownBlock ∧ some k_ ≠ ((.slice Ao37 t451.length co37) : Value).ownBlock ∧ k_ ≠ gb445 ∧ k_ ≠ gb446 ∧ k_ ≠ gb454 ∧ k_ ≠ gb479) (.slice Ao60 y476.length co60) y476) ∧ zaa (w'.heap[gb445]? = some (.cells #[.int .u8 a0_0, .int .u8 a0_1, .int .u8 a0_2, .int .u8 a0_3] 22 (0, 0))) ∧ zaa (w'.heap[gb446]? = some (.cells #[.int .u8 a1_0, .int .u8 a1_1, .int .u8 a1_2] 23 (0, 0))) ∧ zaa (w'.heap[gb454]? = some (.cells #[.int .i64 t450, (.slice Ao37 t451.length co37)] 29 (0, 0))) ∧ zaa (w'.heap[gb479]? = some (.cells #[.int .i64 t450, .int .i64 3, (.slice Ao60 y476.length co60)] 40 (0, 0))) ∧ zaa (Below w.heap.size w w'))
                                 case atStart => exact ⟨(x22_1), (0), (by first | rfl | (simp; done) | (simp [*]; done)), H', ⟨Nat.le_refl _⟩, ⟨by (with_reducible repeat (first | apply Kd.zqa | apply Kd.zpa | apply Kd.zsa)); exact HO_18.out⟩, ⟨by (with_reducible repeat (first | apply Kd.zqa | apply Kd.zpa | apply Kd.zsa)); exact HO_22.out⟩, ⟨by (with_reducible repeat (first | apply Kd.zqa | apply Kd.zpa | apply Kd.zsa)); exact HO_455001.out⟩, ⟨by (with_reducible repeat (first | apply Kd.N_alloc | apply Kd.N_drewN | apply Kd.N_drew)); exact HO_480002.out⟩, ⟨by (with_reducible repeat (first | refine zga ?_ _ | refine zha ?_ | refine zfa ?_ _)); exact BK445.out⟩, ⟨by (with_reducible repeat (first | refine zga ?_ _ | refine zha ?_ | refine zfa ?_ _)); exact BK446.out⟩, ⟨by (with_reducible repeat (first | refine zga ?_ _ | refine zha ?_ | refine zfa ?_ _)); exact BK454.out⟩, ⟨by (with_reducible repeat (first | refine zga ?_ _ | refine zha ?_ | refine zfa ?_ _)); exact BK479.out⟩, ⟨by repeat (first | (with_reducible first | exact HB.out | apply zda | apply zba | apply zca | refine zea ?_ GE445.out | refine zea ?_ GE446.out | refine zea ?_ GE454.out | refine zea ?_ GE479.out) | exact HB.out)⟩⟩
                                 case round =>
                                  clear H'
                                  try clear c1
                                  try clear c2
                                  try clear p2
                                  try clear c3
                                  try clear c4
                                  try clear p4
                                  try clear q4
                                  try clear hx4
                                  try clear qi4
                                  try clear c5
                                  try clear p5
                                  try clear q5
                                  try clear hx5
                                  try clear c6
                                  try clear p6
                                  try clear c7
                                  try clear c8
                                  try clear c9
                                  try clear c10
                                  try clear c11
                                  try clear c44
                                  try clear p49
                                  try clear q49
                                  try clear hx49
                                  try clear qi49
                                  try clear p51
                                  try clear q51
                                  try clear hx51
                                  try clear c62
                                  try clear c63
                                  try clear c64
                                  try clear p64
                                  try clear c81
                                  try clear c81b0
                                  try clear c82
                                  try clear c82b0
                                  try clear c83
                                  try clear c83b0
                                  try clear c84
                                  try clear c84b0
                                  try clear c84b1
                                  try clear hcz41_2
                                  try clear hcz45_0
                                  try clear hcz45_1
                                  try clear hcz65_0
                                  try clear hcz65_1
                                  try clear hcz65_2
                                  try clear hcz70_0
                                  try clear hcz70_1
                                  try clear hcz70_2
                                  try clear hfz41_0
                                  try clear hfz41_1
                                  try clear hfz41_2
                                  try clear hfz45_0
                                  try clear hfz45_1
                                  try clear hfz65_0
                                  try clear hfz65_1
                                  try clear hfz65_2
                                  try clear hfz70_0
                                  try clear hfz70_1
                                  try clear hfz70_2
                                  try clear hx494_0
                                  try clear hx494_1
                                  try clear hx512_0
                                  try clear p2
                                  try clear p4
                                  try clear p49
                                  try clear p494
                                  try clear p512
                                  try clear p6
                                  try clear p64
                                  try clear q4
                                  try clear q49
                                  try clear q494
                                  try clear q512
                                  obtain ⟨x22_2, x24_2, rfl, HA, HK2, HO_18, HO_22, HO_455001, HO_480002, BK445, BK446, BK454, BK479, HB⟩ := hrel
                                  cases gk with
                                  | zero => exact absurd HA.out (by simp [zia.l1])
                                  | succ k2 =>
                                   have H := HA.out
                                   clear HA
                                   simp only [zia.l1] at H
                                   by_cases c85 : x24_2 < t450
                                   · rw [if_pos c85] at H
                                     have c85b0 : decide (x24_2 < t450) = true := decide_eq_true c85
                                     clear c85
                                     by_cases c86 : 0 ≤ x23_1
                                     · rw [if_pos c86] at H
                                       have c86b0 : decide (0 ≤ x23_1) = true := decide_eq_true c86
                                       clear c86
                                       by_cases c87 : x23_1 < (t483.length : Int)
                                       · rw [if_pos c87] at H
                                         have c87b0 : decide (x23_1 < (t483.length : Int)) = true := decide_eq_true c87
                                         clear c87
                                         by_cases c88 : 0 ≤ x24_2
                                         · rw [if_pos c88] at H
                                           have c88b0 : decide (0 ≤ x24_2) = true := decide_eq_true c88
                                           clear c88
                                           by_cases c89 : x24_2 < ((rdOf ByteArray.empty t483 x23_1).size : Int)
                                           · rw [if_pos c89] at H
                                             have c89b0 : decide (x24_2 < ((rdOf ByteArray.empty t483 x23_1).size : Int)) = true := decide_eq_true c89
                                             clear c89
                                             by_cases c91 : x22_2.length < 4398046511104
                                             · rw [if_pos c91] at H
                                               have LMc91 := zaa.mk c91
                                               clear c91
                                               obtain ⟨y514, hy514⟩ : ∃ y_ : List (S59), y_ = (x22_2 ++ [(⟨(Int.tmod (wrap64 (a2)) 8), x23_1, x24_2, ((bt (rdOf ByteArray.empty t483 x23_1) x24_2) == 49)⟩ : S59)]) := ⟨_, rfl⟩
                                               replace H : (zia.l1 k2 t450 (Int.tmod (wrap64 (a1_2)) 4) (Int.tmod (wrap64 (a2)) 8) t483 y514 x23_1 (wrap64 (x24_2 + 1)) t450 t451) = some r := by first | (rw [hy514]; with_reducible exact H) | (have H2_ := (Option.bind_some _ _).symm.trans H; rw [hy514]; with_reducible exact H2_) | (have H2_ := (Option.bind_some _ _).symm.trans H; with_reducible exact H2_) | with_reducible exact H | (rw [hy514]; exact H) | exact H
                                               have Ny514 := zaa.mk hy514
                                               clear hy514
                                               have H' := zaa.mk H
                                               clear H
                                               have p513 : 0 ≤ (x23_1 : Int) := of_decide_eq_true (by first | (with_reducible assumption) | assumption)
                                               have q513 : x23_1 < (t483.length : Int) := of_decide_eq_true (by first | (with_reducible assumption) | assumption)
                                               obtain ⟨ad513, e513, hx513_0⟩ := Kd.at_string (Kd.zgb HO_18.out).2.2 x23_1 p513 q513
                                               obtain rfl : ad512 = ad513 := (by injection e513)
                                               replace p513 := eq_true p513
                                               replace q513 := eq_true q513
                                               have p90 : 0 ≤ (x24_2 : Int) := of_decide_eq_true (by first | (with_reducible assumption) | assumption)
                                               have q90 : x24_2 < ((rdOf ByteArray.empty t483 x23_1).size : Int) := of_decide_eq_true (by first | (with_reducible assumption) | assumption)
                                               have hx90 := bt_at (rdOf ByteArray.empty t483 x23_1) x24_2
                                               replace p90 := eq_true p90
                                               replace q90 := eq_true q90
                                               go_wp2_with (first | ((with_reducible refine gate_builtin (b := .append) (xs := #[.tmp 151, .tmp 163]) rfl ?_); (try (refine zid (by rfl) ?_; dsimp only)); at_builtin; refine Kd.R_append k59 (w0 := w) w.heap.size rfl (.tmp 151) (.tmp 163) 57 59 (.agg #[(.int .i64 0), (.int .i64 0), (.int .i64 0), (.bool false)]) 32 rfl Tryz.underlying57 info59 rfl (by decide) (by omega) u22 x22_2 (⟨(Int.tmod (wrap64 (a2)) 8), x23_1, x24_2, ((bt (rdOf ByteArray.empty t483 x23_1) x24_2) == 49)⟩ : S59) [.int .i64 (Int.tmod (wrap64 (a2)) 8), .int .i64 x23_1, .int .i64 x24_2, .bool ((bt (rdOf ByteArray.empty t483 x23_1) x24_2) == 49)] (fun _ => True) (fun _ => False) rfl rfl ?aP (fun _ hk => hk.elim) ?aF ?aO ?aB ?aS ?aL ?_; (case aP => exact k59_mkM _ _ _ (⟨(Int.tmod (wrap64 (a2)) 8), x23_1, x24_2, ((bt (rdOf ByteArray.empty t483 x23_1) x24_2) == 49)⟩ : S59)); (case aB => exact (by repeat (first | (with_reducible first | exact HB.out | apply zda | apply zba | apply zca | refine zea ?_ GE445.out | refine zea ?_ GE446.out | refine zea ?_ GE454.out | refine zea ?_ GE479.out) | exact HB.out))); (case aF => exact (fun _ _ => trivial)); (case aO => exact (by (with_reducible repeat (first | apply Kd.zqa | apply Kd.zpa | apply Kd.zsa)); exact HO_22.out)); (case aS => exact (zja (by repeat (first | (with_reducible first | exact HB.out | apply zda | apply zba | apply zca | refine zea ?_ GE445.out | refine zea ?_ GE446.out | refine zea ?_ GE454.out | refine zea ?_ GE479.out) | exact HB.out)))); (case aL => have := LMc91.out; omega); intro v515 w92 ho hb hg hat; rw [← Ny514.out] at ho; replace HO_18 := zaa.mk (Kd.R_over' (by (with_reducible repeat (first | apply Kd.zqa | apply Kd.zpa | apply Kd.zsa)); exact HO_18.out) (Kd.zkd (by (with_reducible repeat (first | apply Kd.zqa | apply Kd.zpa | apply Kd.zsa)); exact HO_22.out)) (by decide) hg); replace HO_455001 := zaa.mk (Kd.R_over' (by (with_reducible repeat (first | apply Kd.zqa | apply Kd.zpa | apply Kd.zsa)); exact HO_455001.out) (Kd.zkd (by (with_reducible repeat (first | apply Kd.zqa | apply Kd.zpa | apply Kd.zsa)); exact HO_22.out)) (by decide) hg); replace HO_480002 := zaa.mk (Kd.N_afterv (ok := (fun k_ => some k_ ≠ (.slice (some ad512) t483.length co76 : Value).ownBlock ∧ some k_ ≠ (.slice Ao37 t451.length co37 : Value).ownBlock ∧ k_ ≠ gb445 ∧ k_ ≠ gb446 ∧ k_ ≠ gb454 ∧ k_ ≠ gb479)) (by (with_reducible repeat (first | apply Kd.N_alloc | apply Kd.N_drewN | apply Kd.N_drew)); exact Kd.N_mono HO_480002.out (fun _ hk => ⟨⟨hk.1, ⟨hk.2.2.1, ⟨hk.2.2.2.1, ⟨hk.2.2.2.2.1, ⟨hk.2.2.2.2.2.1, hk.2.2.2.2.2.2⟩⟩⟩⟩⟩, hk.2.1⟩)) hg hat); replace BK445 := zaa.mk (blk_grown (g := gb445) (o := .cells #[.int .u8 a0_0, .int .u8 a0_1, .int .u8 a0_2, .int .u8 a0_3] 22 (0, 0)) (by (with_reducible repeat (first | refine zga ?_ _ | refine zha ?_ | refine zfa ?_ _)); exact BK445.out) hg (Kd.R_ne HO_22.out BK445.out (by decide))); replace BK446 := zaa.mk (blk_grown (g := gb446) (o := .cells #[.int .u8 a1_0, .int .u8 a1_1, .int .u8 a1_2] 23 (0, 0)) (by (with_reducible repeat (first | refine zga ?_ _ | refine zha ?_ | refine zfa ?_ _)); exact BK446.out) hg (Kd.R_ne HO_22.out BK446.out (by decide))); replace BK454 := zaa.mk (blk_grown (g := gb454) (o := .cells #[.int .i64 t450, .slice Ao37 t451.length co37] 29 (0, 0)) (by (with_reducible repeat (first | refine zga ?_ _ | refine zha ?_ | refine zfa ?_ _)); exact BK454.out) hg (Kd.R_ne HO_22.out BK454.out (by decide))); replace BK479 := zaa.mk (blk_grown (g := gb479) (o := .cells #[.int .i64 t450, .int .i64 3, .slice Ao60 y476.length co60] 40 (0, 0)) (by (with_reducible repeat (first | refine zga ?_ _ | refine zha ?_ | refine zfa ?_ _)); exact BK479.out) hg (Kd.R_ne HO_22.out BK479.out (by decide))); replace HB := zaa.mk (hb); have HO516 := zaa.mk (ho); clear HO_22; clear ho hb hg hat))
                                               go_roundg k2
                                               case measure => have := HK1.out; have := HK2.out; omega
                                               case rel => exact ⟨(y514), (wrap64 (x24_2 + 1)), (by first | rfl | (simp; done) | (simp [*]; done)), H', ⟨by have := HK1.out; have := HK2.out; omega⟩, ⟨by (with_reducible repeat (first | apply Kd.zqa | apply Kd.zpa | apply Kd.zsa)); exact HO_18.out⟩, ⟨by (with_reducible repeat (first | apply Kd.zqa | apply Kd.zpa | apply Kd.zsa)); exact HO516.out⟩, ⟨by (with_reducible repeat (first | apply Kd.zqa | apply Kd.zpa | apply Kd.zsa)); exact HO_455001.out⟩, ⟨by (with_reducible repeat (first | apply Kd.N_alloc | apply Kd.N_drewN | apply Kd.N_drew)); exact Kd.N_mono HO_480002.out (fun _ hk => ⟨hk.1.1, ⟨hk.2, ⟨hk.1.2.1, ⟨hk.1.2.2.1, ⟨hk.1.2.2.2.1, ⟨hk.1.2.2.2.2.1, hk.1.2.2.2.2.2⟩⟩⟩⟩⟩⟩)⟩, ⟨by (with_reducible repeat (first | refine zga ?_ _ | refine zha ?_ | refine zfa ?_ _)); exact BK445.out⟩, ⟨by (with_reducible repeat (first | refine zga ?_ _ | refine zha ?_ | refine zfa ?_ _)); exact BK446.out⟩, ⟨by (with_reducible repeat (first | refine zga ?_ _ | refine zha ?_ | refine zfa ?_ _)); exact BK454.out⟩, ⟨by (with_reducible repeat (first | refine zga ?_ _ | refine zha ?_ | refine zfa ?_ _)); exact BK479.out⟩, ⟨by repeat (first | (with_reducible first | exact HB.out | apply zda | apply zba | apply zca | refine zea ?_ GE445.out | refine zea ?_ GE446.out | refine zea ?_ GE454.out | refine zea ?_ GE479.out) | exact HB.out)⟩⟩
                                             · rw [if_neg c91] at H
                                               exact absurd H (by simp)
                                           · rw [if_neg c89] at H
                                             exact absurd H (by simp)
                                         · rw [if_neg c88] at H
                                           exact absurd H (by simp)
                                       · rw [if_neg c87] at H
                                         exact absurd H (by simp)
                                     · rw [if_neg c86] at H
                                       exact absurd H (by simp)
                                   · rw [if_neg c85] at H
                                     have c85b0 : decide (x24_2 < t450) = false := decide_eq_false c85
                                     clear c85
                                     have H' := zaa.mk H
                                     clear H
                                     go_wp2
                                     go_roundg k2
                                     case measure => have := HK1.out; have := HK2.out; omega
                                     case rel => exact ⟨(x22_2), (wrap64 (x23_1 + 1)), (by first | rfl | (simp; done) | (simp [*]; done)), H', ⟨by have := HK1.out; have := HK2.out; omega⟩, ⟨by (with_reducible repeat (first | apply Kd.zqa | apply Kd.zpa | apply Kd.zsa)); exact HO_18.out⟩, ⟨by (with_reducible repeat (first | apply Kd.zqa | apply Kd.zpa | apply Kd.zsa)); exact HO_22.out⟩, ⟨by (with_reducible repeat (first | apply Kd.zqa | apply Kd.zpa | apply Kd.zsa)); exact HO_455001.out⟩, ⟨by (with_reducible repeat (first | apply Kd.N_alloc | apply Kd.N_drewN | apply Kd.N_drew)); exact HO_480002.out⟩, ⟨by (with_reducible repeat (first | refine zga ?_ _ | refine zha ?_ | refine zfa ?_ _)); exact BK445.out⟩, ⟨by (with_reducible repeat (first | refine zga ?_ _ | refine zha ?_ | refine zfa ?_ _)); exact BK446.out⟩, ⟨by (with_reducible repeat (first | refine zga ?_ _ | refine zha ?_ | refine zfa ?_ _)); exact BK454.out⟩, ⟨by (with_reducible repeat (first | refine zga ?_ _ | refine zha ?_ | refine zfa ?_ _)); exact BK479.out⟩, ⟨by repeat (first | (with_reducible first | exact HB.out | apply zda | apply zba | apply zca | refine zea ?_ GE445.out | refine zea ?_ GE446.out | refine zea ?_ GE454.out | refine zea ?_ GE479.out) | exact HB.out)⟩⟩
                               · rw [if_neg c84] at H
                                 exact absurd H (by simp)
                             · rw [if_neg c83] at H
                               exact absurd H (by simp)
                           · rw [if_neg c82] at H
                             exact absurd H (by simp)
                         · rw [if_neg c81] at H
                           have c81b0 : decide (x23_1 < 3) = false := decide_eq_false c81
                           clear c81
                           obtain ⟨y502, hy502⟩ : ∃ y_ : List Int, y_ = (([(Int.tmod (wrap64 (a1_2)) 4)] : List Int)) := ⟨_, rfl⟩
                           replace H : ((glue_Explain.f k1 t450 t451 y502 x22_1).bind fun bt505 => (if bt505.2.2 = 0 then (if bt505.1 ≥ 1 then (if (bt505.2.1.length : Int) ≤ 1 then ((testlinertop_pubPrint.f k1).bind fun t510 => (if t510 = true then ((zfe.f k1).bind fun t511 => (some t511)) else (none))) else (none)) else (none)) else (none))) = some r := by first | (rw [hy502]; with_reducible exact H) | (have H2_ := (Option.bind_some _ _).symm.trans H; rw [hy502]; with_reducible exact H2_) | (have H2_ := (Option.bind_some _ _).symm.trans H; with_reducible exact H2_) | with_reducible exact H | (rw [hy502]; exact H) | exact H
                           have Ny502 := zaa.mk hy502
                           clear hy502
                           replace H := Option.bind_eq_some_iff.mp H
                           obtain ⟨⟨t505, t506, t509⟩, A930, H⟩ := H
                           replace H : (if t509 = 0 then (if t505 ≥ 1 then (if (t506.length : Int) ≤ 1 then ((testlinertop_pubPrint.f k1).bind fun t510 => (if t510 = true then ((zfe.f k1).bind fun t511 => (some t511)) else (none))) else (none)) else (none)) else (none)) = some r := H
                           have A93 := zaa.mk A930
                           clear A930
                           by_cases c94 : t509 = 0
                           · rw [if_pos c94] at H
                             have c94b0 : (t509 == 0) = true := beq_iff_eq.mpr c94
                             have c94b1 : (t509 != 0) = false := bne_eq_false_iff_eq.mpr c94
                             clear c94
                             by_cases c95 : t505 ≥ 1
                             · rw [if_pos c95] at H
                               have c95b0 : decide (1 ≤ t505) = true := decide_eq_true c95
                               clear c95
                               by_cases c96 : (t506.length : Int) ≤ 1
                               · rw [if_pos c96] at H
                                 have c96b0 : decide ((t506.length : Int) ≤ 1) = true := decide_eq_true c96
                                 have c96b1 : decide (t506.length ≤ 1) = true := decide_eq_true (by omega)
                                 clear c96
                                 replace H := Option.bind_eq_some_iff.mp H
                                 obtain ⟨t510, A970, H⟩ := H
                                 replace H : (if t510 = true then ((zfe.f k1).bind fun t511 => (some t511)) else (none)) = some r := H
                                 have A97 := zaa.mk A970
                                 clear A970
                                 by_cases c98 : t510 = true
                                 · subst c98
                                   have H1 : ((zfe.f k1).bind fun t511 => (some t511)) = some r := by rw [if_pos rfl] at H; exact H
                                   clear H
                                   have H := H1
                                   clear H1
                                   replace H := Option.bind_eq_some_iff.mp H
                                   obtain ⟨t511, A990, H⟩ := H
                                   replace H : (some t511) = some r := H
                                   have A99 := zaa.mk A990
                                   clear A990
                                   obtain rfl := Option.some.inj H
                                   have hnb100 := NB454_445.out
                                   have hnc100 := NB445_454.out
                                   have hnb101 := NB454_446.out
                                   have hnc101 := NB446_454.out
                                   have hnb102 := NB454_479.out
                                   have hnc102 := NB479_454.out
                                   have hcz103_0 : wr.cell? ⟨gb454, 0, none⟩ = some (.int .i64 t450) := (zla BK454.out 0).trans rfl
                                   have hcz103_1 : wr.cell? ⟨gb454, 1, none⟩ = some (.slice Ao37 t451.length co37) := (zla BK454.out 1).trans rfl
                                   have hfz103_0 := zka BK454.out 0
                                   have hfz103_1 := zka BK454.out 1
                                   go_wp2_with (first | ((with_reducible refine zbb (N := 168) rfl ?_); (try (refine zid (by rfl) ?_; dsimp only)); refine Kd.R_lit (Kd.int .i64) _ 3 ?hg (N := 168) ?hd (xs := ([(Int.tmod (wrap64 (a1_2)) 4)] : List Int)) (inner := [.int .i64 (Int.tmod (wrap64 (a1_2)) 4)]) (ok := fun _ => True) (okp := fun _ => True) ?hr ?hp (fun _ hk => hk) trivial (Below.refl _ _) (Nat.le_refl _) (by simp) ?_; (case hd => rfl); (case hg => rfl); (case hr => first | (go_simp; done) | (go_simp; rfl)); (case hp => exact (Reps.one (show Kd.M (Kd.int .i64) _ _ _ (Int.tmod (wrap64 (a1_2)) 4) [.int .i64 (Int.tmod (wrap64 (a1_2)) 4)] from rfl) (Reps.none _ _))); intro v503 w104 ho105 hb hg_ hnew_; clear hg_ hnew_; (first | rw [← Ny502.out] at ho105 | (simp only [Int.reduceToNat] at ho105; rw [← Ny502.out] at ho105)); replace HO_18 := zaa.mk (Kd.zcb (by (with_reducible repeat (first | apply Kd.zqa | apply Kd.zpa | apply Kd.zsa)); exact HO_18.out) hb); replace HO_22 := zaa.mk (Kd.zcb (by (with_reducible repeat (first | apply Kd.zqa | apply Kd.zpa | apply Kd.zsa)); exact HO_22.out) hb); replace HO_480002 := zaa.mk (Kd.N_elder' (by (with_reducible repeat (first | apply Kd.N_alloc | apply Kd.N_drewN | apply Kd.N_drew)); exact HO_480002.out) (Kd.zxd ho105) hb); have HO504 := zaa.mk (Kd.znd (Kd.R_new' ho105 (Kd.R_lt (by (with_reducible repeat (first | apply Kd.zqa | apply Kd.zpa | apply Kd.zsa)); exact HO_455001.out))) (zja (by repeat (first | (with_reducible first | exact HB.out | apply zda | apply zba | apply zca | refine zea ?_ GE445.out | refine zea ?_ GE446.out | refine zea ?_ GE454.out | refine zea ?_ GE479.out) | exact HB.out)))); replace HO_455001 := zaa.mk (Kd.R_elder' (by (with_reducible repeat (first | apply Kd.zqa | apply Kd.zpa | apply Kd.zsa)); exact HO_455001.out) (Kd.zxd ho105) hb); replace BK445 := zaa.mk (zna (g := gb445) (o := .cells #[.int .u8 a0_0, .int .u8 a0_1, .int .u8 a0_2, .int .u8 a0_3] 22 (0, 0)) (by (with_reducible repeat (first | refine zga ?_ _ | refine zha ?_ | refine zfa ?_ _)); exact BK445.out) hb); replace BK446 := zaa.mk (zna (g := gb446) (o := .cells #[.int .u8 a1_0, .int .u8 a1_1, .int .u8 a1_2] 23 (0, 0)) (by (with_reducible repeat (first | refine zga ?_ _ | refine zha ?_ | refine zfa ?_ _)); exact BK446.out) hb); replace BK454 := zaa.mk (zna (g := gb454) (o := .cells #[.int .i64 t450, .slice Ao37 t451.length co37] 29 (0, 0)) (by (with_reducible repeat (first | refine zga ?_ _ | refine zha ?_ | refine zfa ?_ _)); exact BK454.out) hb); replace BK479 := zaa.mk (zna (g := gb479) (o := .cells #[.int .i64 t450, .int .i64 3, .slice Ao60 y476.length co60] 40 (0, 0)) (by (with_reducible repeat (first | refine zga ?_ _ | refine zha ?_ | refine zfa ?_ _)); exact BK479.out) hb); replace HB := zaa.mk (zma (by repeat (first | (with_reducible first | exact HB.out | apply zda | apply zba | apply zca | refine zea ?_ GE445.out | refine zea ?_ GE446.out | refine zea ?_ GE454.out | refine zea ?_ GE479.out) | exact HB.out)) hb); clear hb ho105; obtain ⟨Ao106, co106, eo106⟩ := Kd.zfd HO504.out; subst eo106; obtain ⟨Ao107, co107, eo107⟩ := Kd.zfd HO_22.out; subst eo107) | ((with_reducible refine zxa (f := 12) rfl ?_); refine zhd (some 170) rfl rfl Tryz.func12 (by kernel_rfl) rfl #[.agg #[.int .i64 t450, .slice Ao37 t451.length co37], .slice Ao106 y502.length co106, .slice Ao107 x22_1.length co107] rfl (by (try simp only [List.map_toArray, List.map_cons, List.map_nil]); first | done | rfl | (simp only [List.length_drop, List.length_take]; rfl)) ?_; (with_reducible refine (glue_Explain.calls k1 t450 (fun k_ => some k_ = (.slice Ao37 t451.length co37 : Value).ownBlock) _ _ t451 _ _ y502 _ _ x22_1 t505 t506 t509 _ ?side1 ?side2 ?side3 ?side4 ?side5 A93.out).mono ?_); (case side1 => exact Kd.R_V (Kd.R_tight rfl (Kd.zpc (Kd.zpc (Kd.zpc (Kd.zpc (Kd.zfc (Kd.zfc (Kd.zfc (HO_455001.out) (Kd.zkd HO_18.out) (by decide)) (Kd.zkd HO_22.out) (by decide)) (Kd.N_typed HO_480002.out) (by decide)) BK445.out (by decide)) BK446.out (by decide)) BK454.out (by decide)) BK479.out (by decide)))); (case side2 => repeat (first | exact (Kd.zgb HO504.out).2.2 | (with_reducible refine Kd.zrb ?_ _) | (with_reducible refine Kd.zqb ?_ _) | (with_reducible refine Kd.zmc ?_))); (case side3 => exact (Kd.zgb HO504.out).2.1); (case side4 => repeat (first | exact (Kd.zgb HO_22.out).2.2 | (with_reducible refine Kd.zrb ?_ _) | (with_reducible refine Kd.zqb ?_ _) | (with_reducible refine Kd.zmc ?_))); (case side5 => exact (Kd.zgb HO_22.out).2.1); rintro e w108 ⟨v507, rfl, ho0, hb⟩; refine ⟨_, rfl, ?_⟩; have HO508 := zaa.mk (Kd.V_lower (Kd.zcc (ok' := fun k_ => some k_ ≠ (.slice Ao76 t483.length co76 : Value).ownBlock ∧ some k_ ≠ (.slice Ao107 x22_1.length co107 : Value).ownBlock ∧ some k_ ≠ (.slice Ao60 y476.length co60 : Value).ownBlock ∧ some k_ ≠ (.slice Ao106 y502.length co106 : Value).ownBlock ∧ k_ ≠ gb445 ∧ k_ ≠ gb446 ∧ k_ ≠ gb454 ∧ k_ ≠ gb479) ho0 (fun k_ hk_ => ⟨Or.elim hk_ (fun hs_ => ((Kd.zpc (Kd.zpc (Kd.zpc (Kd.zpc (Kd.zfc (Kd.zfc (Kd.zfc (HO_455001.out) (Kd.zkd HO_18.out) (by decide)) (Kd.zkd HO_22.out) (by decide)) (Kd.N_typed HO_480002.out) (by decide)) BK445.out (by decide)) BK446.out (by decide)) BK454.out (by decide)) BK479.out (by decide)).1 k_ hs_.symm).1.1.1.1.1.1.2) (fun hn_ => (Kd.fresh' (Kd.R_lt (by (with_reducible repeat (first | apply Kd.zqa | apply Kd.zpa | apply Kd.zsa)); exact HO_18.out)) k_ hn_)), Or.elim hk_ (fun hs_ => ((Kd.zpc (Kd.zpc (Kd.zpc (Kd.zpc (Kd.zfc (Kd.zfc (Kd.zfc (HO_455001.out) (Kd.zkd HO_18.out) (by decide)) (Kd.zkd HO_22.out) (by decide)) (Kd.N_typed HO_480002.out) (by decide)) BK445.out (by decide)) BK446.out (by decide)) BK454.out (by decide)) BK479.out (by decide)).1 k_ hs_.symm).1.1.1.1.1.2) (fun hn_ => (Kd.fresh' (Kd.R_lt (by (with_reducible repeat (first | apply Kd.zqa | apply Kd.zpa | apply Kd.zsa)); exact HO_22.out)) k_ hn_)), Or.elim hk_ (fun hs_ => ((Kd.zpc (Kd.zpc (Kd.zpc (Kd.zpc (Kd.zfc (Kd.zfc (Kd.zfc (HO_455001.out) (Kd.zkd HO_18.out) (by decide)) (Kd.zkd HO_22.out) (by decide)) (Kd.N_typed HO_480002.out) (by decide)) BK445.out (by decide)) BK446.out (by decide)) BK454.out (by decide)) BK479.out (by decide)).1 k_ hs_.symm).1.1.1.1.2) (fun hn_ => (Kd.fresh' (Kd.N_lt (by (with_reducible repeat (first | apply Kd.N_alloc | apply Kd.N_drewN | apply Kd.N_drew)); exact HO_480002.out)) k_ hn_)), Or.elim hk_ (fun hs_ => ((Kd.zpc (Kd.zpc (Kd.zpc (Kd.zpc (Kd.zfc (Kd.zfc (Kd.zfc (HO_455001.out) (Kd.zkd HO_18.out) (by decide)) (Kd.zkd HO_22.out) (by decide)) (Kd.N_typed HO_480002.out) (by decide)) BK445.out (by decide)) BK446.out (by decide)) BK454.out (by decide)) BK479.out (by decide)).1 k_ hs_.symm).1.1.1.1.1.1.1.2) (fun hn_ => (Kd.fresh' (Kd.R_lt (by (with_reducible repeat (first | apply Kd.zqa | apply Kd.zpa | apply Kd.zsa)); exact HO504.out)) k_ hn_)), Or.elim hk_ (fun hs_ => ((Kd.zpc (Kd.zpc (Kd.zpc (Kd.zpc (Kd.zfc (Kd.zfc (Kd.zfc (HO_455001.out) (Kd.zkd HO_18.out) (by decide)) (Kd.zkd HO_22.out) (by decide)) (Kd.N_typed HO_480002.out) (by decide)) BK445.out (by decide)) BK446.out (by decide)) BK454.out (by decide)) BK479.out (by decide)).1 k_ hs_.symm).1.1.1.2) (fun hn_ => (Kd.freshB (g := gb445) (o := .cells #[.int .u8 a0_0, .int .u8 a0_1, .int .u8 a0_2, .int .u8 a0_3] 22 (0, 0)) (by (with_reducible repeat (first | refine zga ?_ _ | refine zha ?_ | refine zfa ?_ _)); exact BK445.out) k_ hn_)), Or.elim hk_ (fun hs_ => ((Kd.zpc (Kd.zpc (Kd.zpc (Kd.zpc (Kd.zfc (Kd.zfc (Kd.zfc (HO_455001.out) (Kd.zkd HO_18.out) (by decide)) (Kd.zkd HO_22.out) (by decide)) (Kd.N_typed HO_480002.out) (by decide)) BK445.out (by decide)) BK446.out (by decide)) BK454.out (by decide)) BK479.out (by decide)).1 k_ hs_.symm).1.1.2) (fun hn_ => (Kd.freshB (g := gb446) (o := .cells #[.int .u8 a1_0, .int .u8 a1_1, .int .u8 a1_2] 23 (0, 0)) (by (with_reducible repeat (first | refine zga ?_ _ | refine zha ?_ | refine zfa ?_ _)); exact BK446.out) k_ hn_)), Or.elim hk_ (fun hs_ => ((Kd.zpc (Kd.zpc (Kd.zpc (Kd.zpc (Kd.zfc (Kd.zfc (Kd.zfc (HO_455001.out) (Kd.zkd HO_18.out) (by decide)) (Kd.zkd HO_22.out) (by decide)) (Kd.N_typed HO_480002.out) (by decide)) BK445.out (by decide)) BK446.out (by decide)) BK454.out (by decide)) BK479.out (by decide)).1 k_ hs_.symm).1.2) (fun hn_ => (Kd.freshB (g := gb454) (o := .cells #[.int .i64 t450, .slice Ao37 t451.length co37] 29 (0, 0)) (by (with_reducible repeat (first | refine zga ?_ _ | refine zha ?_ | refine zfa ?_ _)); exact BK454.out) k_ hn_)), Or.elim hk_ (fun hs_ => ((Kd.zpc (Kd.zpc (Kd.zpc (Kd.zpc (Kd.zfc (Kd.zfc (Kd.zfc (HO_455001.out) (Kd.zkd HO_18.out) (by decide)) (Kd.zkd HO_22.out) (by decide)) (Kd.N_typed HO_480002.out) (by decide)) BK445.out (by decide)) BK446.out (by decide)) BK454.out (by decide)) BK479.out (by decide)).1 k_ hs_.symm).2) (fun hn_ => (Kd.freshB (g := gb479) (o := .cells #[.int .i64 t450, .int .i64 3, .slice Ao60 y476.length co60] 40 (0, 0)) (by (with_reducible repeat (first | refine zga ?_ _ | refine zha ?_ | refine zfa ?_ _)); exact BK479.out) k_ hn_))⟩)) (zja (by repeat (first | (with_reducible first | exact HB.out | apply zda | apply zba | apply zca | refine zea ?_ GE445.out | refine zea ?_ GE446.out | refine zea ?_ GE454.out | refine zea ?_ GE479.out) | exact HB.out)))); replace HO_18 := zaa.mk (Kd.zcb (by (with_reducible repeat (first | apply Kd.zqa | apply Kd.zpa | apply Kd.zsa)); exact HO_18.out) hb); replace HO_22 := zaa.mk (Kd.zcb (by (with_reducible repeat (first | apply Kd.zqa | apply Kd.zpa | apply Kd.zsa)); exact HO_22.out) hb); replace HO_455001 := zaa.mk (Kd.zcb (by (with_reducible repeat (first | apply Kd.zqa | apply Kd.zpa | apply Kd.zsa)); exact HO_455001.out) hb); replace HO_480002 := zaa.mk (Kd.N_below (by (with_reducible repeat (first | apply Kd.N_alloc | apply Kd.N_drewN | apply Kd.N_drew)); exact HO_480002.out) hb); replace HO504 := zaa.mk (Kd.zcb (by (with_reducible repeat (first | apply Kd.zqa | apply Kd.zpa | apply Kd.zsa)); exact HO504.out) hb); replace BK445 := zaa.mk (zna (g := gb445) (o := .cells #[.int .u8 a0_0, .int .u8 a0_1, .int .u8 a0_2, .int .u8 a0_3] 22 (0, 0)) (by (with_reducible repeat (first | refine zga ?_ _ | refine zha ?_ | refine zfa ?_ _)); exact BK445.out) hb); replace BK446 := zaa.mk (zna (g := gb446) (o := .cells #[.int .u8 a1_0, .int .u8 a1_1, .int .u8 a1_2] 23 (0, 0)) (by (with_reducible repeat (first | refine zga ?_ _ | refine zha ?_ | refine zfa ?_ _)); exact BK446.out) hb); replace BK454 := zaa.mk (zna (g := gb454) (o := .cells #[.int .i64 t450, .slice Ao37 t451.length co37] 29 (0, 0)) (by (with_reducible repeat (first | refine zga ?_ _ | refine zha ?_ | refine zfa ?_ _)); exact BK454.out) hb); replace BK479 := zaa.mk (zna (g := gb479) (o := .cells #[.int .i64 t450, .int .i64 3, .slice Ao60 y476.length co60] 40 (0, 0)) (by (with_reducible repeat (first | refine zga ?_ _ | refine zha ?_ | refine zfa ?_ _)); exact BK479.out) hb); replace HB := zaa.mk (zma (by repeat (first | (with_reducible first | exact HB.out | apply zda | apply zba | apply zca | refine zea ?_ GE445.out | refine zea ?_ GE446.out | refine zea ?_ GE454.out | refine zea ?_ GE479.out) | exact HB.out)) hb); (try clear hb); (try clear hb2); (try clear hk); (try clear hi); (try clear ho0); obtain ⟨Ao109, co109, eo109⟩ := Kd.V_slice HO508.out; subst eo109) | (go_at_call 13; (with_reducible refine (testlinertop_pubPrint.calls k1  true _ A97.out).mono ?_); rintro e w110 ⟨rfl, hb⟩; replace HO_18 := zaa.mk (Kd.zcb (by (with_reducible repeat (first | apply Kd.zqa | apply Kd.zpa | apply Kd.zsa)); exact HO_18.out) hb); replace HO_22 := zaa.mk (Kd.zcb (by (with_reducible repeat (first | apply Kd.zqa | apply Kd.zpa | apply Kd.zsa)); exact HO_22.out) hb); replace HO_455001 := zaa.mk (Kd.zcb (by (with_reducible repeat (first | apply Kd.zqa | apply Kd.zpa | apply Kd.zsa)); exact HO_455001.out) hb); replace HO_480002 := zaa.mk (Kd.N_below (by (with_reducible repeat (first | apply Kd.N_alloc | apply Kd.N_drewN | apply Kd.N_drew)); exact HO_480002.out) hb); replace HO504 := zaa.mk (Kd.zcb (by (with_reducible repeat (first | apply Kd.zqa | apply Kd.zpa | apply Kd.zsa)); exact HO504.out) hb); replace HO508 := zaa.mk (Kd.zqc (by (with_reducible repeat (first | apply Kd.zza | apply Kd.zya | apply Kd.zib)); exact HO508.out) hb); replace BK445 := zaa.mk (zna (g := gb445) (o := .cells #[.int .u8 a0_0, .int .u8 a0_1, .int .u8 a0_2, .int .u8 a0_3] 22 (0, 0)) (by (with_reducible repeat (first | refine zga ?_ _ | refine zha ?_ | refine zfa ?_ _)); exact BK445.out) hb); replace BK446 := zaa.mk (zna (g := gb446) (o := .cells #[.int .u8 a1_0, .int .u8 a1_1, .int .u8 a1_2] 23 (0, 0)) (by (with_reducible repeat (first | refine zga ?_ _ | refine zha ?_ | refine zfa ?_ _)); exact BK446.out) hb); replace BK454 := zaa.mk (zna (g := gb454) (o := .cells #[.int .i64 t450, .slice Ao37 t451.length co37] 29 (0, 0)) (by (with_reducible repeat (first | refine zga ?_ _ | refine zha ?_ | refine zfa ?_ _)); exact BK454.out) hb); replace BK479 := zaa.mk (zna (g := gb479) (o := .cells #[.int .i64 t450, .int .i64 3, .slice Ao60 y476.length co60] 40 (0, 0)) (by (with_reducible repeat (first | refine zga ?_ _ | refine zha ?_ | refine zfa ?_ _)); exact BK479.out) hb); replace HB := zaa.mk (zma (by repeat (first | (with_reducible first | exact HB.out | apply zda | apply zba | apply zca | refine zea ?_ GE445.out | refine zea ?_ GE446.out | refine zea ?_ GE454.out | refine zea ?_ GE479.out) | exact HB.out)) hb); (try clear hb); (try clear hb2); (try clear hk); (try clear hi)) | (go_at_call 14; (with_reducible refine (zfe.calls k1  t511 _ A99.out).mono ?_); rintro e w111 ⟨rfl, hb⟩; replace HO_18 := zaa.mk (Kd.zcb (by (with_reducible repeat (first | apply Kd.zqa | apply Kd.zpa | apply Kd.zsa)); exact HO_18.out) hb); replace HO_22 := zaa.mk (Kd.zcb (by (with_reducible repeat (first | apply Kd.zqa | apply Kd.zpa | apply Kd.zsa)); exact HO_22.out) hb); replace HO_455001 := zaa.mk (Kd.zcb (by (with_reducible repeat (first | apply Kd.zqa | apply Kd.zpa | apply Kd.zsa)); exact HO_455001.out) hb); replace HO_480002 := zaa.mk (Kd.N_below (by (with_reducible repeat (first | apply Kd.N_alloc | apply Kd.N_drewN | apply Kd.N_drew)); exact HO_480002.out) hb); replace HO504 := zaa.mk (Kd.zcb (by (with_reducible repeat (first | apply Kd.zqa | apply Kd.zpa | apply Kd.zsa)); exact HO504.out) hb); replace HO508 := zaa.mk (Kd.zqc (by (with_reducible repeat (first | apply Kd.zza | apply Kd.zya | apply Kd.zib)); exact HO508.out) hb); replace BK445 := zaa.mk (zna (g := gb445) (o := .cells #[.int .u8 a0_0, .int .u8 a0_1, .int .u8 a0_2, .int .u8 a0_3] 22 (0, 0)) (by (with_reducible repeat (first | refine zga ?_ _ | refine zha ?_ | refine zfa ?_ _)); exact BK445.out) hb); replace BK446 := zaa.mk (zna (g := gb446) (o := .cells #[.int .u8 a1_0, .int .u8 a1_1, .int .u8 a1_2] 23 (0, 0)) (by (with_reducible repeat (first | refine zga ?_ _ | refine zha ?_ | refine zfa ?_ _)); exact BK446.out) hb); replace BK454 := zaa.mk (zna (g := gb454) (o := .cells #[.int .i64 t450, .slice Ao37 t451.length co37] 29 (0, 0)) (by (with_reducible repeat (first | refine zga ?_ _ | refine zha ?_ | refine zfa ?_ _)); exact BK454.out) hb); replace BK479 := zaa.mk (zna (g := gb479) (o := .cells #[.int .i64 t450, .int .i64 3, .slice Ao60 y476.length co60] 40 (0, 0)) (by (with_reducible repeat (first | refine zga ?_ _ | refine zha ?_ | refine zfa ?_ _)); exact BK479.out) hb); replace HB := zaa.mk (zma (by repeat (first | (with_reducible first | exact HB.out | apply zda | apply zba | apply zca | refine zea ?_ GE445.out | refine zea ?_ GE446.out | refine zea ?_ GE454.out | refine zea ?_ GE479.out) | exact HB.out)) hb); (try clear hb); (try clear hb2); (try clear hk); (try clear hi)))
                                   go_ret
                                   exact ⟨by first | rfl | (simp [zwa, zva] <;> rfl) | (simp [*, zwa, zva] <;> rfl), by repeat (first | (with_reducible first | exact HB.out | apply zda | apply zba | apply zca | refine zea ?_ GE445.out | refine zea ?_ GE446.out | refine zea ?_ GE454.out | refine zea ?_ GE479.out) | exact HB.out)⟩
                                 · replace c98 := Bool.eq_false_iff.mpr c98
                                   subst c98
                                   have H1 : (none) = some r := by rw [if_neg (show ¬ (false = true) by decide)] at H; exact H
                                   clear H
                                   have H := H1
                                   clear H1
                                   exact absurd H (by simp)
                               · rw [if_neg c96] at H
                                 exact absurd H (by simp)
                             · rw [if_neg c95] at H
                               exact absurd H (by simp)
                           · rw [if_neg c94] at H
                             exact absurd H (by simp)
                   · rw [if_neg c21] at H
                     exact absurd H (by simp)
                 · rw [if_neg c20] at H
                   have c20b0 : ((t490.length : Int) == 1) = false := beq_eq_false_iff_ne.mpr c20
                   have c20b1 : ((t490.length : Int) != 1) = true := bne_iff_ne.mpr c20
                   exact absurd H (by simp)
               · rw [if_neg c19] at H
                 have c19b0 : ((t483.length : Int) == 3) = false := beq_eq_false_iff_ne.mpr c19
                 have c19b1 : ((t483.length : Int) != 3) = true := bne_iff_ne.mpr c19
                 exact absurd H (by simp)
             · rw [if_neg c18] at H
               have c18b0 : (t493 == 0) = false := beq_eq_false_iff_ne.mpr c18
               have c18b1 : (t493 != 0) = true := bne_iff_ne.mpr c18
               exact absurd H (by simp)
           · rw [if_neg c17] at H
             have c17b0 : (t486 == 0) = false := beq_eq_false_iff_ne.mpr c17
             have c17b1 : (t486 != 0) = true := bne_iff_ne.mpr c17
             exact absurd H (by simp)
         · rw [if_neg c13] at H
           exact absurd H (by simp)
       · replace c12 := Bool.eq_false_iff.mpr c12
         subst c12
         have H1 : (none) = some r := by rw [if_neg (show ¬ (false = true) by decide)] at H; exact H
         clear H
         have H := H1
         clear H1
         exact absurd H (by simp)
     · rw [if_neg c10] at H
       exact absurd H (by simp)
   · rw [if_neg c9] at H
     exact absurd H (by simp)
 · rw [if_neg c7] at H
   exact absurd H (by simp)
end Go.Proofs.YtoacbkoenkiahaaGreat.PTopGluePlate
end
