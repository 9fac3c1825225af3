/- A part of the proof of the law TopGluePlate: whatever the input, the call returns true and its arguments read as they read before; no condition. Written by a program of this session out of its own texts and the printed ones. -/
import Derived.Test.YtoacbkoenkiahaaGreatPkW1
import Derived.Test.YtoacbkoenkiahaaGreatPkX1
section
namespace Go.Proofs.YtoacbkoenkiahaaGreat.PTopGluePlate
open Go.RowKit Go.Proofs.YtoacbkoenkiahaaGreatW.PrintWords Go.Proofs.YtoacbkoenkiahaaGreatW.PrintLast Go.Proofs.YtoacbkoenkiahaaGreatW.PrintMore
attribute [local go_sem] znb zlb zhc zgc zeb zdb zmb zkb
set_option linter.unusedVariables false
set_option linter.unusedSimpArgs false
def ztb.f (a0 : Int) (a1 : Int) : Option (Int × Int) := some (a0, a1)
set_option maxHeartbeats 8000000 in
set_option maxRecDepth 100000 in
theorem ztb.calls (a0 : Int) (a1 : Int) (r1 : Int) (r2 : Int) (w : World) (h : ztb.f a0 a1 = some (r1, r2)) :
 Calls Tryz.prog 10 #[.int .i64 a0, .int .i64 a1] w fun e w' => e = .returned (.agg #[.int .i64 r1, .int .i64 r2]) ∧ Below w.heap.size w w' := by
 have hu51 := Tryz.underlying51
 have HB := zaa.mk (Below.refl w.heap.size w)
 have H : (some (a0, a1)) = some (r1, r2) := h
 clear h
 simp only [Option.some.injEq, Prod.mk.injEq] at H
 obtain ⟨rfl, rfl⟩ := H
 go_enter Tryz.func10, Tryz.ntmps10
 go_wp2_with (first | ((with_reducible refine zbb (N := 4) rfl ?_); refine zob ?hg (N := 4) ?hd (cs := #[.int .i64 0, .int .i64 0]) (t := 51) ?hr ?_; (case hd => rfl); (case hg => rfl); (case hr => first | (go_simp; done) | (go_simp; rfl)); intro gb255 hg w3 hbox hb; have BK255 := zaa.mk (hbox); have GW255 := zaa.mk ((by rw [hg]; exact (zja (by repeat (first | (with_reducible first | exact HB.out | apply zda | apply zba | apply zca) | exact HB.out))) : w.heap.size ≤ gb255)); have GE255 := zaa.mk ((by rw [hg]; exact (zja (by repeat (first | (with_reducible first | exact HB.out | apply zda | apply zba | apply zca) | exact HB.out))) : w.heap.size ≤ gb255)); replace HB := zaa.mk (zma (by repeat (first | (with_reducible first | exact HB.out | apply zda | apply zba | apply zca) | exact HB.out)) hb); clear hb hbox hg; have hcz4_0 : w3.cell? ⟨gb255, 0, none⟩ = some (.int .i64 0) := (zla BK255.out 0).trans rfl; have hcz4_1 : w3.cell? ⟨gb255, 1, none⟩ = some (.int .i64 0) := (zla BK255.out 1).trans rfl; have hfz4_0 := zka BK255.out 0; have hfz4_1 := zka BK255.out 1))
 refine bodyPost_ret (results_cell_row rfl _ _ gb255 51 #[.int .i64 a0, .int .i64 a1] (0, 0) _ rfl (by (with_reducible repeat (first | refine zga ?_ _ | refine zha ?_ | refine zfa ?_ _)); refine zzc (cs := #[.int .i64 a0, .int .i64 0]) ?_ 1 _ rfl; (with_reducible repeat (first | refine zga ?_ _ | refine zha ?_ | refine zfa ?_ _)); refine zzc (cs := #[.int .i64 0, .int .i64 0]) ?_ 0 _ rfl; (with_reducible repeat (first | refine zga ?_ _ | refine zha ?_ | refine zfa ?_ _)); exact BK255.out) Tryz.underlying51 rfl (by kernel_rfl)) rfl ?_
 exact ⟨by first | rfl | (simp [zwa, zva] <;> rfl) | (simp [*, zwa, zva] <;> rfl), by repeat (first | (with_reducible first | exact HB.out | apply zda | apply zba | apply zca | refine zea ?_ GE255.out) | exact HB.out)⟩
end Go.Proofs.YtoacbkoenkiahaaGreat.PTopGluePlate
end
section
namespace Go.Proofs.YtoacbkoenkiahaaGreat.PTopGluePlate
open Go.RowKit Go.Proofs.YtoacbkoenkiahaaGreatW.PrintWords Go.Proofs.YtoacbkoenkiahaaGreatW.PrintLast Go.Proofs.YtoacbkoenkiahaaGreatW.PrintMore
attribute [local go_sem] znb zlb zhc zgc zeb zdb zmb zkb
set_option linter.unusedVariables false
set_option linter.unusedSimpArgs false
mutual
def zoa.l0 : Nat → List Int → Int → Int → Option (Int)
 | 0, _, _, _ => none
 | k + 1, x0, x3, x4 => if x4 < (x0.length : Int) then (zoa.l1 k x0 x3 x4 0) else (some x3)
def zoa.l1 : Nat → List Int → Int → Int → Int → Option (Int)
 | 0, _, _, _, _ => none
 | k + 1, x0, x3, x4, x5 => if x5 < 20 then (if 0 ≤ x4 then (if x4 < (x0.length : Int) then (if 0 ≤ (IntKind.u64.wrap (x5)) then (zoa.l1 k x0 (wrap64 (x3 + (Go.bits .and .i64 (shr .i64 (rd x0 x4) (IntKind.u64.wrap (x5))) 1))) x4 (wrap64 (x5 + 1))) else (none)) else (none)) else (none)) else (zoa.l0 k x0 x3 (wrap64 (x4 + 1)))
end
def zoa.f (k : Nat) (l0 : List Int) : Option (Int) := zoa.l0 k l0 0 0
set_option maxHeartbeats 8000000 in
set_option maxRecDepth 100000 in
theorem zoa.calls (k : Nat) (A0 : Option Addr) (c0 : Nat) (l0 : List Int) (r : Int) (w : World) (hr0 : Kd.C (Kd.int .i64) w A0 l0.length l0) (hc0 : l0.length ≤ c0) (h : zoa.f k l0 = some r) :
 Calls Tryz.prog 11 #[.slice A0 l0.length c0] w fun e w' => e = .returned (.int .i64 r) ∧ zjc w w' := by
 have HR0 := zaa.mk hr0
 have HC0 := zaa.mk hc0
 clear hr0 hc0
 have H : (zoa.l0 k l0 0 0) = some r := h
 clear h
 have H' := zaa.mk H
 clear H
 go_enter Tryz.func11, Tryz.ntmps11
 go_wp2
 go_loopg [3, 4] k (fun kq v3 v4 w' => ∃ (x3_1 : Int) (x4_1 : Int), v3 = .int .i64 x3_1 ∧ v4 = .int .i64 x4_1 ∧ zaa (zoa.l0 kq l0 x3_1 x4_1 = some r) ∧ zaa (kq ≤ k) ∧ zjc w w')
 case atStart => exact ⟨(0), (0), (by first | rfl | (simp; done) | (simp [*]; done)), (by first | rfl | (simp; done) | (simp [*]; done)), H', ⟨Nat.le_refl _⟩, by repeat (first | exact zjc.refl _ | apply zjc.step)⟩
 case round =>
  clear H'
  try clear c1
  obtain ⟨x3_1, x4_1, rfl, rfl, HA, HK1, ⟨m1, rfl⟩⟩ := hrel
  cases gk with
  | zero => exact absurd HA.out (by simp [zoa.l0])
  | succ k1 =>
   have H := HA.out
   clear HA
   simp only [zoa.l0] at H
   by_cases c2 : x4_1 < (l0.length : Int)
   · rw [if_pos c2] at H
     have c2b0 : decide (x4_1 < (l0.length : Int)) = true := decide_eq_true c2
     clear c2
     have H' := zaa.mk H
     clear H
     go_wp2
     go_loopg [3, 5] k1 (fun kq v3 v5 w' => ∃ (x3_2 : Int) (x5_2 : Int), v3 = .int .i64 x3_2 ∧ v5 = .int .i64 x5_2 ∧ zaa (zoa.l1 kq l0 x3_2 x4_1 x5_2 = some r) ∧ zaa (kq ≤ k1) ∧ zjc w w')
     case atStart => exact ⟨(x3_1), (0), (by first | rfl | (simp; done) | (simp [*]; done)), (by first | rfl | (simp; done) | (simp [*]; done)), H', ⟨Nat.le_refl _⟩, by repeat (first | exact zjc.refl _ | apply zjc.step)⟩
     case round =>
      clear H'
      try clear c1
      try clear c2
      try clear c2b0
      try clear p2
      obtain ⟨x3_2, x5_2, rfl, rfl, HA, HK2, ⟨m2, rfl⟩⟩ := hrel
      cases gk with
      | zero => exact absurd HA.out (by simp [zoa.l1])
      | succ k2 =>
       have H := HA.out
       clear HA
       simp only [zoa.l1] at H
       by_cases c3 : x5_2 < 20
       · rw [if_pos c3] at H
         have c3b0 : decide (x5_2 < 20) = true := decide_eq_true c3
         clear c3
         by_cases c4 : 0 ≤ x4_1
         · rw [if_pos c4] at H
           have c4b0 : decide (0 ≤ x4_1) = true := decide_eq_true c4
           clear c4
           by_cases c5 : x4_1 < (l0.length : Int)
           · rw [if_pos c5] at H
             have c5b0 : decide (x4_1 < (l0.length : Int)) = true := decide_eq_true c5
             clear c5
             obtain ⟨ji6, hji6⟩ : ∃ j_ : Int, (IntKind.u64.wrap (x5_2)) = j_ := ⟨_, rfl⟩
             replace H : (if 0 ≤ (ji6) then (zoa.l1 k2 l0 (wrap64 (x3_2 + (Go.bits .and .i64 (shr .i64 (rd l0 x4_1) (ji6)) 1))) x4_1 (wrap64 (x5_2 + 1))) else (none)) = some r := by first | (rw [hji6] at H; exact H) | (simp only [hji6] at H ⊢; exact H)
             by_cases c7 : 0 ≤ (ji6)
             · rw [if_pos c7] at H
               have c7b0 := eq_true c7
               have c7b1 : decide (0 ≤ (ji6)) = true := decide_eq_true c7
               clear c7
               obtain ⟨ji8, hji8⟩ : ∃ j_ : Int, (shr .i64 (rd l0 x4_1) (ji6)) = j_ := ⟨_, rfl⟩
               replace H : (zoa.l1 k2 l0 (wrap64 (x3_2 + (Go.bits .and .i64 (ji8) 1))) x4_1 (wrap64 (x5_2 + 1))) = some r := by first | (rw [hji8] at H; exact H) | (simp only [hji8] at H ⊢; exact H)
               have hji8_ : ((rd l0 x4_1) / 2 ^ min (ji6).toNat 64) = ji8 := hji8
               have hji8z : (ji6) ≤ 64 → ((rd l0 x4_1) / 2 ^ (ji6).toNat) = ji8 := shr_small hji8
               have H' := zaa.mk H
               clear H
               have p256 : 0 ≤ (x4_1 : Int) := of_decide_eq_true (by first | (with_reducible assumption) | assumption)
               have q256 : x4_1 < (l0.length : Int) := of_decide_eq_true (by first | (with_reducible assumption) | assumption)
               obtain ⟨ad256, e256, hx256_0⟩ := Kd.at_int HR0.out x4_1 p256 q256
               cases e256
               replace p256 := eq_true p256
               replace q256 := eq_true q256
               go_wp2
               go_roundg k2
               case measure => have := HK1.out; have := HK2.out; omega
               case rel => exact ⟨(wrap64 (x3_2 + (Go.bits .and .i64 (ji8) 1))), (wrap64 (x5_2 + 1)), (by first | rfl | (simp; done) | (simp only [← hji8] <;> (first | rfl | simp)) | (simp [*]; done)), (by first | rfl | (simp; done) | (simp [*]; done)), H', ⟨by have := HK1.out; have := HK2.out; omega⟩, by repeat (first | exact zjc.refl _ | apply zjc.step)⟩
             · rw [if_neg c7] at H
               exact absurd H (by simp)
           · rw [if_neg c5] at H
             exact absurd H (by simp)
         · rw [if_neg c4] at H
           exact absurd H (by simp)
       · rw [if_neg c3] at H
         have c3b0 : decide (x5_2 < 20) = false := decide_eq_false c3
         clear c3
         have H' := zaa.mk H
         clear H
         go_wp2
         go_roundg k2
         case measure => have := HK1.out; have := HK2.out; omega
         case rel => exact ⟨(x3_2), (wrap64 (x4_1 + 1)), (by first | rfl | (simp; done) | (simp [*]; done)), (by first | rfl | (simp; done) | (simp [*]; done)), H', ⟨by have := HK1.out; have := HK2.out; omega⟩, by repeat (first | exact zjc.refl _ | apply zjc.step)⟩
   · rw [if_neg c2] at H
     have c2b0 : decide (x4_1 < (l0.length : Int)) = false := decide_eq_false c2
     clear c2
     obtain rfl := Option.some.inj H
     go_wp2
     go_ret
     exact ⟨by first | rfl | (simp; done) | (simp [*]; done), by repeat (first | exact zjc.refl _ | apply zjc.step)⟩
end Go.Proofs.YtoacbkoenkiahaaGreat.PTopGluePlate
end
section
namespace Go.Proofs.YtoacbkoenkiahaaGreat.PTopGluePlate
open Go.RowKit Go.Proofs.YtoacbkoenkiahaaGreatW.PrintWords Go.Proofs.YtoacbkoenkiahaaGreatW.PrintLast Go.Proofs.YtoacbkoenkiahaaGreatW.PrintMore
attribute [local go_sem] znb zlb zhc zgc zeb zdb zmb zkb
set_option linter.unusedVariables false
set_option linter.unusedSimpArgs false
def Pred_api_GlueLook_73 (P : Program) (g : Nat) (lb : Array Value) (l : List S59) (p : S59 → Option Bool) (w : World) : Prop :=
 ∀ (W : World) (x : S59), x ∈ l → Below w.heap.size w W → ∀ b, p x = some b → Calls P g (#[.agg #[.int .i64 x.f0, .int .i64 x.f1, .int .i64 x.f2, .bool x.f3]] ++ lb) W fun e w' => e = .returned (.bool b) ∧ Below W.heap.size W w'
theorem rd_nat_api_GlueLook (l : List S59) (k : Nat) (h : k < l.length) : rd_T59 l (k : Int) = l[k] := by
 simp [rd_T59, List.getD_eq_getElem?_getD, List.getElem?_eq_getElem h]
set_option maxHeartbeats 2000000 in
set_option maxRecDepth 100000 in
theorem slices_IndexFunc_api_GlueLook.calls (g : Nat) (lb : Array Value) (p : S59 → Option Bool) (A0 : Option Addr) (c0 : Nat) (l0 : List S59) (r : Int) (w : World) (hr0 : Kd.C k59 w A0 l0.length l0) (hc0 : l0.length ≤ c0)
    (eg : ∀ args w, (callFunc g args).run Tryz.prog w = .ok (.enter g args) w) (hp : Pred_api_GlueLook_73 Tryz.prog g lb l0 p w) (h : idxO p l0 0 = some r) :
    Calls Tryz.prog 73 #[.slice A0 l0.length c0, .func (.func g) #[] lb] w fun e w' => e = .returned (.int .i64 r) ∧ Below w.heap.size w w' := by
  have hu59 := Tryz.underlying59
  have HR0 := zaa.mk hr0
  have HB := zaa.mk (Below.refl w.heap.size w)
  have HP := zaa.mk hp
  have HH := zaa.mk h
  have hlen : l0.length ≤ 9223372036854775807 := hr0.2.1
  clear hr0 hc0 hp h
  go_enter Tryz.func73, Tryz.ntmps73
  go_wp2
  go_loopw [8] (fun v8 wr => ∃ kk : Nat, kk ≤ l0.length ∧ v8 = .int .i64 kk ∧ zaa (idxO p (l0.drop kk) kk = some r) ∧ zaa (Below w.heap.size w wr)) (fun v8 _ => l0.length - (intOf v8).toNat)
  case atStart => exact ⟨0, Nat.zero_le _, rfl, ⟨by simpa using HH.out⟩, HB⟩
  case round =>
    obtain ⟨kk, hkk, rfl, HI, HW⟩ := hrel
    by_cases hlt : kk < l0.length
    · have hlz : (kk : Int) < (l0.length : Int) := by omega
      obtain ⟨ad, e0, hx0, hx1, hx2, hx3⟩ := at_T59 (Kd.zkc HR0.out HW.out) (kk : Int) (by omega) hlz
      cases e0
      rw [rd_nat_api_GlueLook l0 kk hlt] at hx0 hx1 hx2 hx3
      simp only [Int.toNat_natCast] at hx0 hx1 hx2 hx3
      have hcall := HP.out wr l0[kk] (List.getElem_mem hlt) HW.out
      have hd := HI.out
      rw [idxO_drop p l0 kk hlt] at hd
      have HD := zaa.mk hd
      clear hd HI
      generalize l0[kk] = y at hx0 hx1 hx2 hx3 hcall HD
      have HC := zaa.mk hcall
      clear hcall
      cases hq : p y with
      | none => exact absurd HD.out (by rw [hq]; simp)
      | some b =>
        have HC2 := zaa.mk (HC.out b hq)
        clear HC
        cases b with
        | true =>
          go_wp2_with (go_at_fn g; refine HC2.out.mono ?_; rintro e w' ⟨rfl, hb'⟩; have HB' := zaa.mk hb'; clear hb')
          go_ret
          refine ⟨?_, zma HW.out HB'.out⟩
          have h1 := HD.out
          rw [hq] at h1
          have h2 : (kk : Int) = r := by simpa using h1
          rw [← h2]; rfl
        | false =>
          have HI : zaa (idxO p (l0.drop (kk + 1)) (kk + 1) = some r) := ⟨by have h1 := HD.out; rw [hq] at h1; simpa using h1⟩
          go_wp2_with (go_at_fn g; refine HC2.out.mono ?_; rintro e w' ⟨rfl, hb'⟩; have HB' := zaa.mk hb'; clear hb')
          go_roundw
          case rel => exact ⟨kk + 1, by omega, by go_num, HI, ⟨zma HW.out HB'.out⟩⟩
          case measure => simp [intOf]; omega
    · obtain rfl : kk = l0.length := by omega
      go_wp2
      go_ret
      have h1 := HI.out
      rw [List.drop_length] at h1
      exact ⟨by have h2 : (-1 : Int) = r := (by simpa [idxO] using h1); rw [← h2]; rfl, HW.out⟩
end Go.Proofs.YtoacbkoenkiahaaGreat.PTopGluePlate
end
section
namespace Go.Proofs.YtoacbkoenkiahaaGreat.PTopGluePlate
open Go.RowKit Go.Proofs.YtoacbkoenkiahaaGreatW.PrintWords Go.Proofs.YtoacbkoenkiahaaGreatW.PrintLast Go.Proofs.YtoacbkoenkiahaaGreatW.PrintMore
attribute [local go_sem] znb zlb zhc zgc zeb zdb zmb zkb
set_option linter.unusedVariables false
set_option linter.unusedSimpArgs false
def Pred_api_GlueLook_51 (P : Program) (g : Nat) (lb : Array Value) (l : List S59) (p : S59 → Option Bool) (w : World) : Prop :=
 ∀ (W : World) (x : S59), x ∈ l → Below w.heap.size w W → ∀ b, p x = some b → Calls P g (#[.agg #[.int .i64 x.f0, .int .i64 x.f1, .int .i64 x.f2, .bool x.f3]] ++ lb) W fun e w' => e = .returned (.bool b) ∧ Below W.heap.size W w'
set_option maxHeartbeats 1000000 in
theorem slices_ContainsFunc_api_GlueLook.calls (g : Nat) (lb : Array Value) (p : S59 → Option Bool) (A0 : Option Addr) (c0 : Nat) (l0 : List S59) (r : Bool) (w : World) (hr0 : Kd.C k59 w A0 l0.length l0) (hc0 : l0.length ≤ c0)
 (eg : ∀ args w, (callFunc g args).run Tryz.prog w = .ok (.enter g args) w) (hp : Pred_api_GlueLook_51 Tryz.prog g lb l0 p w) (h : containsO p l0 = some r) :
 Calls Tryz.prog 51 #[.slice A0 l0.length c0, .func (.func g) #[] lb] w fun e w' => e = .returned (.bool r) ∧ Below w.heap.size w w' := by
 obtain ⟨x, hx, hxr⟩ := containsO_idx p l0 r h
 have H := zaa.mk (slices_IndexFunc_api_GlueLook.calls g lb p A0 c0 l0 x w hr0 hc0 eg hp hx)
 have HX := zaa.mk hxr
 clear hr0 hc0 hp h hx hxr
 go_enter Tryz.func51, Tryz.ntmps51
 go_wp2_with (go_at_call 73; refine H.out.mono ?_; rintro e w' ⟨rfl, hb'⟩; have HB' := zaa.mk hb'; clear hb')
 go_ret
 exact ⟨by rw [← HX.out]; rfl, HB'.out⟩
end Go.Proofs.YtoacbkoenkiahaaGreat.PTopGluePlate
end
section
namespace Go.Proofs.YtoacbkoenkiahaaGreat.PTopGluePlate
open Go.RowKit Go.Proofs.YtoacbkoenkiahaaGreatW.PrintWords Go.Proofs.YtoacbkoenkiahaaGreatW.PrintLast Go.Proofs.YtoacbkoenkiahaaGreatW.PrintMore
attribute [local go_sem] znb zlb zhc zgc zeb zdb zmb zkb
set_option linter.unusedVariables false
set_option linter.unusedSimpArgs false
def glue_plan_checkLooks_1.f (a0_0 : Int) (a0_1 : Int) (a0_2 : Int) (a0_3 : Bool) (a1_0 : Int) (l1_1 : List Int) : Option (Bool) := (zzd.f (([a0_0] : List Int))).bind fun t261 => (if t261 = true then ((zpd.f a1_0 l1_1 a0_1).bind fun t262 => (if t262 = true then ((znc.f 0 (wrap64 (a1_0 - 1)) (([a0_2] : List Int))).bind fun t266 => (some (!t266))) else (none))) else (none))
set_option maxHeartbeats 8000000 in
set_option maxRecDepth 100000 in
theorem glue_plan_checkLooks_1.calls (a0_0 : Int) (a0_1 : Int) (a0_2 : Int) (a0_3 : Bool) (g1_ : Nat) (a1_0 : Int) (A1_1 : Option Addr) (c1_1 : Nat) (l1_1 : List Int) (r : Bool) (w : World) (hr1_1 : Kd.C (Kd.int .i64) w A1_1 l1_1.length l1_1) (hc1_1 : l1_1.length ≤ c1_1) (hbx1 : w.heap[g1_]? = some (.cells #[.int .i64 a1_0, .slice A1_1 l1_1.length c1_1] 66 (0, 0))) (h : glue_plan_checkLooks_1.f a0_0 a0_1 a0_2 a0_3 a1_0 l1_1 = some r) :
 Calls Tryz.prog 67 #[.agg #[.int .i64 a0_0, .int .i64 a0_1, .int .i64 a0_2, .bool a0_3], .pointer (some ⟨g1_, 0, none⟩)] w fun e w' => e = .returned (.bool r) ∧ Below w.heap.size w w' := by
 have hu59 := Tryz.underlying59
 have hu66 := Tryz.underlying66
 have HR1_1 := zaa.mk hr1_1
 have HC1_1 := zaa.mk hc1_1
 clear hr1_1 hc1_1
 have BK1 := zaa.mk hbx1
 clear hbx1
 have HB := zaa.mk (Below.refl w.heap.size w)
 have H : ((zzd.f (([a0_0] : List Int))).bind fun t261 => (if t261 = true then ((zpd.f a1_0 l1_1 a0_1).bind fun t262 => (if t262 = true then ((znc.f 0 (wrap64 (a1_0 - 1)) (([a0_2] : List Int))).bind fun t266 => (some (!t266))) else (none))) else (none))) = some r := h
 clear h
 obtain ⟨y258, hy258⟩ : ∃ y_ : List Int, y_ = (([a0_0] : List Int)) := ⟨_, rfl⟩
 replace H : ((zzd.f y258).bind fun t261 => (if t261 = true then ((zpd.f a1_0 l1_1 a0_1).bind fun t262 => (if t262 = true then ((znc.f 0 (wrap64 (a1_0 - 1)) (([a0_2] : List Int))).bind fun t266 => (some (!t266))) else (none))) else (none))) = some r := by first | (rw [hy258]; with_reducible exact H) | (have H2_ := (Option.bind_some _ _).symm.trans H; rw [hy258]; with_reducible exact H2_) | (have H2_ := (Option.bind_some _ _).symm.trans H; with_reducible exact H2_) | with_reducible exact H | (rw [hy258]; exact H) | exact H
 have Ny258 := zaa.mk hy258
 clear hy258
 replace H := Option.bind_eq_some_iff.mp H
 obtain ⟨t261, A30, H⟩ := H
 replace H : (if t261 = true then ((zpd.f a1_0 l1_1 a0_1).bind fun t262 => (if t262 = true then ((znc.f 0 (wrap64 (a1_0 - 1)) (([a0_2] : List Int))).bind fun t266 => (some (!t266))) else (none))) else (none)) = some r := H
 have A3 := zaa.mk A30
 clear A30
 by_cases c4 : t261 = true
 · subst c4
   have H1 : ((zpd.f a1_0 l1_1 a0_1).bind fun t262 => (if t262 = true then ((znc.f 0 (wrap64 (a1_0 - 1)) (([a0_2] : List Int))).bind fun t266 => (some (!t266))) else (none))) = some r := by rw [if_pos rfl] at H; exact H
   clear H
   have H := H1
   clear H1
   replace H := Option.bind_eq_some_iff.mp H
   obtain ⟨t262, A50, H⟩ := H
   replace H : (if t262 = true then ((znc.f 0 (wrap64 (a1_0 - 1)) (([a0_2] : List Int))).bind fun t266 => (some (!t266))) else (none)) = some r := H
   have A5 := zaa.mk A50
   clear A50
   by_cases c6 : t262 = true
   · subst c6
     have H1 : ((znc.f 0 (wrap64 (a1_0 - 1)) (([a0_2] : List Int))).bind fun t266 => (some (!t266))) = some r := by rw [if_pos rfl] at H; exact H
     clear H
     have H := H1
     clear H1
     obtain ⟨y263, hy263⟩ : ∃ y_ : List Int, y_ = (([a0_2] : List Int)) := ⟨_, rfl⟩
     replace H : ((znc.f 0 (wrap64 (a1_0 - 1)) y263).bind fun t266 => (some (!t266))) = some r := by first | (rw [hy263]; with_reducible exact H) | (have H2_ := (Option.bind_some _ _).symm.trans H; rw [hy263]; with_reducible exact H2_) | (have H2_ := (Option.bind_some _ _).symm.trans H; with_reducible exact H2_) | with_reducible exact H | (rw [hy263]; exact H) | exact H
     have Ny263 := zaa.mk hy263
     clear hy263
     replace H := Option.bind_eq_some_iff.mp H
     obtain ⟨t266, A70, H⟩ := H
     replace H : (some (!t266)) = some r := H
     have A7 := zaa.mk A70
     clear A70
     obtain rfl := Option.some.inj H
     go_enter Tryz.func67, Tryz.ntmps67
     go_wp2_with (first | ((with_reducible refine zbb (N := 2) rfl ?_); (try (refine zid (by rfl) ?_; dsimp only)); refine zob ?hg (N := 2) ?hd (cs := #[.int .i64 a0_0, .int .i64 a0_1, .int .i64 a0_2, .bool a0_3]) (t := 59) ?hr ?_; (case hd => rfl); (case hg => rfl); (case hr => first | (go_simp; done) | (go_simp; rfl)); intro gb257 hg w8 hbox hb; have BK257 := zaa.mk (hbox); have GW257 := zaa.mk ((by rw [hg]; exact (zja (by repeat (first | (with_reducible first | exact HB.out | apply zda | apply zba | apply zca | refine zea ?_ GE1.out) | exact HB.out))) : w.heap.size ≤ gb257)); have GE257 := zaa.mk ((by rw [hg]; exact (zja (by repeat (first | (with_reducible first | exact HB.out | apply zda | apply zba | apply zca | refine zea ?_ GE1.out) | exact HB.out))) : w.heap.size ≤ gb257)); replace HB := zaa.mk (zma (by repeat (first | (with_reducible first | exact HB.out | apply zda | apply zba | apply zca | refine zea ?_ GE1.out) | exact HB.out)) hb); have NB1_257 := zaa.mk ((by rw [hg]; exact Nat.ne_of_lt (zbc (g := g1_) (o := .cells #[.int .i64 a1_0, .slice A1_1 l1_1.length c1_1] 66 (0, 0)) (by (with_reducible repeat (first | refine zga ?_ _ | refine zha ?_ | refine zfa ?_ _)); exact BK1.out)) : g1_ ≠ gb257)); have NB257_1 := zaa.mk ((by rw [hg]; exact Nat.ne_of_gt (zbc (g := g1_) (o := .cells #[.int .i64 a1_0, .slice A1_1 l1_1.length c1_1] 66 (0, 0)) (by (with_reducible repeat (first | refine zga ?_ _ | refine zha ?_ | refine zfa ?_ _)); exact BK1.out)) : gb257 ≠ g1_)); replace BK1 := zaa.mk (zna (g := g1_) (o := .cells #[.int .i64 a1_0, .slice A1_1 l1_1.length c1_1] 66 (0, 0)) (by (with_reducible repeat (first | refine zga ?_ _ | refine zha ?_ | refine zfa ?_ _)); exact BK1.out) hb); clear hb hbox hg; have hnb9 := NB257_1.out; have hnc9 := NB1_257.out; have hcz10_0 : w8.cell? ⟨gb257, 0, none⟩ = some (.int .i64 a0_0) := (zla BK257.out 0).trans rfl; have hcz10_1 : w8.cell? ⟨gb257, 1, none⟩ = some (.int .i64 a0_1) := (zla BK257.out 1).trans rfl; have hcz10_2 : w8.cell? ⟨gb257, 2, none⟩ = some (.int .i64 a0_2) := (zla BK257.out 2).trans rfl; have hcz10_3 : w8.cell? ⟨gb257, 3, none⟩ = some (.bool a0_3) := (zla BK257.out 3).trans rfl; have hfz10_0 := zka BK257.out 0; have hfz10_1 := zka BK257.out 1; have hfz10_2 := zka BK257.out 2; have hfz10_3 := zka BK257.out 3) | ((with_reducible refine zbb (N := 6) rfl ?_); (try (refine zid (by rfl) ?_; dsimp only)); refine Kd.R_lit (Kd.int .i64) _ 3 ?hg (N := 6) ?hd (xs := ([a0_0] : List Int)) (inner := [.int .i64 a0_0]) (ok := fun _ => True) (okp := fun _ => True) ?hr ?hp (fun _ hk => hk) trivial (Below.refl _ _) (Nat.le_refl _) (by simp) ?_; (case hd => rfl); (case hg => rfl); (case hr => first | (go_simp; done) | (go_simp; rfl)); (case hp => exact (Reps.one (show Kd.M (Kd.int .i64) _ _ _ a0_0 [.int .i64 a0_0] from rfl) (Reps.none _ _))); intro v259 w11 ho12 hb hg_ hnew_; clear hg_ hnew_; (first | rw [← Ny258.out] at ho12 | (simp only [Int.reduceToNat] at ho12; rw [← Ny258.out] at ho12)); have HO260 := zaa.mk (Kd.znd ho12 (zja (by repeat (first | (with_reducible first | exact HB.out | apply zda | apply zba | apply zca | refine zea ?_ GE1.out | refine zea ?_ GE257.out) | exact HB.out)))); replace BK1 := zaa.mk (zna (g := g1_) (o := .cells #[.int .i64 a1_0, .slice A1_1 l1_1.length c1_1] 66 (0, 0)) (by (with_reducible repeat (first | refine zga ?_ _ | refine zha ?_ | refine zfa ?_ _)); exact BK1.out) hb); replace BK257 := zaa.mk (zna (g := gb257) (o := .cells #[.int .i64 a0_0, .int .i64 a0_1, .int .i64 a0_2, .bool a0_3] 59 (0, 0)) (by (with_reducible repeat (first | refine zga ?_ _ | refine zha ?_ | refine zfa ?_ _)); exact BK257.out) hb); replace HB := zaa.mk (zma (by repeat (first | (with_reducible first | exact HB.out | apply zda | apply zba | apply zca | refine zea ?_ GE1.out | refine zea ?_ GE257.out) | exact HB.out)) hb); clear hb ho12; obtain ⟨Ao13, co13, eo13⟩ := Kd.zfd HO260.out; subst eo13) | ((with_reducible refine zxa (f := 16) rfl ?_); refine zhd (some 7) rfl rfl Tryz.func16 (by kernel_rfl) rfl #[.slice Ao13 y258.length co13] rfl (by (try simp only [List.map_toArray, List.map_cons, List.map_nil]); first | done | rfl | (simp only [List.length_drop, List.length_take]; rfl)) ?_; (with_reducible refine (zzd.calls _ _ y258 true _ ?side1 ?side2 A3.out).mono ?_); (case side1 => repeat (first | exact (Kd.zgb HO260.out).2.2 | (with_reducible refine Kd.zrb ?_ _) | (with_reducible refine Kd.zqb ?_ _) | (with_reducible refine Kd.zmc ?_))); (case side2 => exact (Kd.zgb HO260.out).2.1); rintro e w14 ⟨rfl, hb⟩; refine ⟨_, rfl, ?_⟩; replace HO260 := zaa.mk (Kd.zcb (by (with_reducible repeat (first | apply Kd.zqa | apply Kd.zpa | apply Kd.zsa)); exact HO260.out) hb); replace BK1 := zaa.mk (zna (g := g1_) (o := .cells #[.int .i64 a1_0, .slice A1_1 l1_1.length c1_1] 66 (0, 0)) (by (with_reducible repeat (first | refine zga ?_ _ | refine zha ?_ | refine zfa ?_ _)); exact BK1.out) hb); replace BK257 := zaa.mk (zna (g := gb257) (o := .cells #[.int .i64 a0_0, .int .i64 a0_1, .int .i64 a0_2, .bool a0_3] 59 (0, 0)) (by (with_reducible repeat (first | refine zga ?_ _ | refine zha ?_ | refine zfa ?_ _)); exact BK257.out) hb); replace HB := zaa.mk (zma (by repeat (first | (with_reducible first | exact HB.out | apply zda | apply zba | apply zca | refine zea ?_ GE1.out | refine zea ?_ GE257.out) | exact HB.out)) hb); (try clear hb); (try clear hb2); (try clear hk); (try clear hi); have hcz15_0 : w14.cell? ⟨g1_, 0, none⟩ = some (.int .i64 a1_0) := (zla BK1.out 0).trans rfl; have hcz15_1 : w14.cell? ⟨g1_, 1, none⟩ = some (.slice A1_1 l1_1.length c1_1) := (zla BK1.out 1).trans rfl; have hfz15_0 := zka BK1.out 0; have hfz15_1 := zka BK1.out 1; have hcz16_0 : w14.cell? ⟨gb257, 0, none⟩ = some (.int .i64 a0_0) := (zla BK257.out 0).trans rfl; have hcz16_1 : w14.cell? ⟨gb257, 1, none⟩ = some (.int .i64 a0_1) := (zla BK257.out 1).trans rfl; have hcz16_2 : w14.cell? ⟨gb257, 2, none⟩ = some (.int .i64 a0_2) := (zla BK257.out 2).trans rfl; have hcz16_3 : w14.cell? ⟨gb257, 3, none⟩ = some (.bool a0_3) := (zla BK257.out 3).trans rfl; have hfz16_0 := zka BK257.out 0; have hfz16_1 := zka BK257.out 1; have hfz16_2 := zka BK257.out 2; have hfz16_3 := zka BK257.out 3) | (go_at_call 68; (with_reducible refine (zpd.calls a1_0 _ _ l1_1 a0_1 true _ ?side1 ?side2 A5.out).mono ?_); (case side1 => repeat (first | exact (Kd.zkc HR1_1.out HB.out) | (with_reducible refine Kd.zrb ?_ _) | (with_reducible refine Kd.zqb ?_ _) | (with_reducible refine Kd.zmc ?_))); (case side2 => exact HC1_1.out); rintro e w17 ⟨rfl, hb⟩; replace HO260 := zaa.mk (Kd.zcb (by (with_reducible repeat (first | apply Kd.zqa | apply Kd.zpa | apply Kd.zsa)); exact HO260.out) hb); replace BK1 := zaa.mk (zna (g := g1_) (o := .cells #[.int .i64 a1_0, .slice A1_1 l1_1.length c1_1] 66 (0, 0)) (by (with_reducible repeat (first | refine zga ?_ _ | refine zha ?_ | refine zfa ?_ _)); exact BK1.out) hb); replace BK257 := zaa.mk (zna (g := gb257) (o := .cells #[.int .i64 a0_0, .int .i64 a0_1, .int .i64 a0_2, .bool a0_3] 59 (0, 0)) (by (with_reducible repeat (first | refine zga ?_ _ | refine zha ?_ | refine zfa ?_ _)); exact BK257.out) hb); replace HB := zaa.mk (zma (by repeat (first | (with_reducible first | exact HB.out | apply zda | apply zba | apply zca | refine zea ?_ GE1.out | refine zea ?_ GE257.out) | exact HB.out)) hb); (try clear hb); (try clear hb2); (try clear hk); (try clear hi); have hcz18_0 : w17.cell? ⟨g1_, 0, none⟩ = some (.int .i64 a1_0) := (zla BK1.out 0).trans rfl; have hcz18_1 : w17.cell? ⟨g1_, 1, none⟩ = some (.slice A1_1 l1_1.length c1_1) := (zla BK1.out 1).trans rfl; have hfz18_0 := zka BK1.out 0; have hfz18_1 := zka BK1.out 1; have hcz19_0 : w17.cell? ⟨gb257, 0, none⟩ = some (.int .i64 a0_0) := (zla BK257.out 0).trans rfl; have hcz19_1 : w17.cell? ⟨gb257, 1, none⟩ = some (.int .i64 a0_1) := (zla BK257.out 1).trans rfl; have hcz19_2 : w17.cell? ⟨gb257, 2, none⟩ = some (.int .i64 a0_2) := (zla BK257.out 2).trans rfl; have hcz19_3 : w17.cell? ⟨gb257, 3, none⟩ = some (.bool a0_3) := (zla BK257.out 3).trans rfl; have hfz19_0 := zka BK257.out 0; have hfz19_1 := zka BK257.out 1; have hfz19_2 := zka BK257.out 2; have hfz19_3 := zka BK257.out 3) | ((with_reducible refine zbb (N := 23) rfl ?_); (try (refine zid (by rfl) ?_; dsimp only)); refine Kd.R_lit (Kd.int .i64) _ 3 ?hg (N := 23) ?hd (xs := ([a0_2] : List Int)) (inner := [.int .i64 a0_2]) (ok := fun _ => True) (okp := fun _ => True) ?hr ?hp (fun _ hk => hk) trivial (Below.refl _ _) (Nat.le_refl _) (by simp) ?_; (case hd => rfl); (case hg => rfl); (case hr => first | (go_simp; done) | (go_simp; rfl)); (case hp => exact (Reps.one (show Kd.M (Kd.int .i64) _ _ _ a0_2 [.int .i64 a0_2] from rfl) (Reps.none _ _))); intro v264 w20 ho21 hb hg_ hnew_; clear hg_ hnew_; (first | rw [← Ny263.out] at ho21 | (simp only [Int.reduceToNat] at ho21; rw [← Ny263.out] at ho21)); have HO265 := zaa.mk (Kd.znd (Kd.R_new' ho21 (Kd.R_lt (by (with_reducible repeat (first | apply Kd.zqa | apply Kd.zpa | apply Kd.zsa)); exact HO260.out))) (zja (by repeat (first | (with_reducible first | exact HB.out | apply zda | apply zba | apply zca | refine zea ?_ GE1.out | refine zea ?_ GE257.out) | exact HB.out)))); replace HO260 := zaa.mk (Kd.R_elder' (by (with_reducible repeat (first | apply Kd.zqa | apply Kd.zpa | apply Kd.zsa)); exact HO260.out) (Kd.zxd ho21) hb); replace BK1 := zaa.mk (zna (g := g1_) (o := .cells #[.int .i64 a1_0, .slice A1_1 l1_1.length c1_1] 66 (0, 0)) (by (with_reducible repeat (first | refine zga ?_ _ | refine zha ?_ | refine zfa ?_ _)); exact BK1.out) hb); replace BK257 := zaa.mk (zna (g := gb257) (o := .cells #[.int .i64 a0_0, .int .i64 a0_1, .int .i64 a0_2, .bool a0_3] 59 (0, 0)) (by (with_reducible repeat (first | refine zga ?_ _ | refine zha ?_ | refine zfa ?_ _)); exact BK257.out) hb); replace HB := zaa.mk (zma (by repeat (first | (with_reducible first | exact HB.out | apply zda | apply zba | apply zca | refine zea ?_ GE1.out | refine zea ?_ GE257.out) | exact HB.out)) hb); clear hb ho21; obtain ⟨Ao22, co22, eo22⟩ := Kd.zfd HO265.out; subst eo22) | (go_at_call 34; (with_reducible refine (znc.calls 0 (wrap64 (a1_0 - 1)) _ _ y263 t266 _ ?side1 ?side2 A7.out).mono ?_); (case side1 => repeat (first | exact (Kd.zgb HO265.out).2.2 | (with_reducible refine Kd.zrb ?_ _) | (with_reducible refine Kd.zqb ?_ _) | (with_reducible refine Kd.zmc ?_))); (case side2 => exact (Kd.zgb HO265.out).2.1); rintro e w23 ⟨rfl, hb⟩; replace HO260 := zaa.mk (Kd.zcb (by (with_reducible repeat (first | apply Kd.zqa | apply Kd.zpa | apply Kd.zsa)); exact HO260.out) hb); replace HO265 := zaa.mk (Kd.zcb (by (with_reducible repeat (first | apply Kd.zqa | apply Kd.zpa | apply Kd.zsa)); exact HO265.out) hb); replace BK1 := zaa.mk (zna (g := g1_) (o := .cells #[.int .i64 a1_0, .slice A1_1 l1_1.length c1_1] 66 (0, 0)) (by (with_reducible repeat (first | refine zga ?_ _ | refine zha ?_ | refine zfa ?_ _)); exact BK1.out) hb); replace BK257 := zaa.mk (zna (g := gb257) (o := .cells #[.int .i64 a0_0, .int .i64 a0_1, .int .i64 a0_2, .bool a0_3] 59 (0, 0)) (by (with_reducible repeat (first | refine zga ?_ _ | refine zha ?_ | refine zfa ?_ _)); exact BK257.out) hb); replace HB := zaa.mk (zma (by repeat (first | (with_reducible first | exact HB.out | apply zda | apply zba | apply zca | refine zea ?_ GE1.out | refine zea ?_ GE257.out) | exact HB.out)) hb); (try clear hb); (try clear hb2); (try clear hk); (try clear hi)))
     go_ret
     exact ⟨by first | rfl | (simp [zwa, zva] <;> rfl) | (simp [*, zwa, zva] <;> rfl), by repeat (first | (with_reducible first | exact HB.out | apply zda | apply zba | apply zca | refine zea ?_ GE1.out | refine zea ?_ GE257.out) | exact HB.out)⟩
   · replace c6 := Bool.eq_false_iff.mpr c6
     subst c6
     have H1 : (none) = some r := by rw [if_neg (show ¬ (false = true) by decide)] at H; exact H
     clear H
     have H := H1
     clear H1
     exact absurd H (by simp)
 · replace c4 := Bool.eq_false_iff.mpr c4
   subst c4
   have H1 : (none) = some r := by rw [if_neg (show ¬ (false = true) by decide)] at H; exact H
   clear H
   have H := H1
   clear H1
   exact absurd H (by simp)
end Go.Proofs.YtoacbkoenkiahaaGreat.PTopGluePlate
end
section
namespace Go.Proofs.YtoacbkoenkiahaaGreat.PTopGluePlate
open Go.RowKit Go.Proofs.YtoacbkoenkiahaaGreatW.PrintWords Go.Proofs.YtoacbkoenkiahaaGreatW.PrintLast Go.Proofs.YtoacbkoenkiahaaGreatW.PrintMore
attribute [local go_sem] znb zlb zhc zgc zeb zdb zmb zkb
set_option linter.unusedVariables false
set_option linter.unusedSimpArgs false
def cmp_isNaN_int.f (a0 : Int) : Option (Bool) := some (a0 != a0)
set_option maxHeartbeats 8000000 in
set_option maxRecDepth 100000 in
theorem cmp_isNaN_int.calls (a0 : Int) (r : Bool) (w : World) (h : cmp_isNaN_int.f a0 = some r) :
 Calls Tryz.prog 88 #[.int .i64 a0] w fun e w' => e = .returned (.bool r) ∧ zjc w w' := by
 have H : (some (a0 != a0)) = some r := h
 clear h
 obtain rfl := Option.some.inj H
 go_enter Tryz.func88, Tryz.ntmps88
 go_wp2
 go_ret
 exact ⟨by first | rfl | (simp; done) | (simp [*]; done), by repeat (first | exact zjc.refl _ | apply zjc.step)⟩
end Go.Proofs.YtoacbkoenkiahaaGreat.PTopGluePlate
end
section
namespace Go.Proofs.YtoacbkoenkiahaaGreat.PTopGluePlate
open Go.RowKit Go.Proofs.YtoacbkoenkiahaaGreatW.PrintWords Go.Proofs.YtoacbkoenkiahaaGreatW.PrintLast Go.Proofs.YtoacbkoenkiahaaGreatW.PrintMore
attribute [local go_sem] znb zlb zhc zgc zeb zdb zmb zkb
set_option linter.unusedVariables false
set_option linter.unusedSimpArgs false
def cmp_Less_int.f (a0 : Int) (a1 : Int) : Option (Bool) := (cmp_isNaN_int.f a0).bind fun t267 => (if t267 = true then ((cmp_isNaN_int.f a1).bind fun t268 => (if t268 = true then (some (decide (a0 < a1))) else (some true))) else (some (decide (a0 < a1))))
set_option maxHeartbeats 8000000 in
set_option maxRecDepth 100000 in
theorem cmp_Less_int.calls (a0 : Int) (a1 : Int) (r : Bool) (w : World) (h : cmp_Less_int.f a0 a1 = some r) :
 Calls Tryz.prog 84 #[.int .i64 a0, .int .i64 a1] w fun e w' => e = .returned (.bool r) ∧ zjc w w' := by
 have H : ((cmp_isNaN_int.f a0).bind fun t267 => (if t267 = true then ((cmp_isNaN_int.f a1).bind fun t268 => (if t268 = true then (some (decide (a0 < a1))) else (some true))) else (some (decide (a0 < a1))))) = some r := h
 clear h
 replace H := Option.bind_eq_some_iff.mp H
 obtain ⟨t267, A30, H⟩ := H
 replace H : (if t267 = true then ((cmp_isNaN_int.f a1).bind fun t268 => (if t268 = true then (some (decide (a0 < a1))) else (some true))) else (some (decide (a0 < a1)))) = some r := H
 have A3 := zaa.mk A30
 clear A30
 by_cases c4 : t267 = true
 · subst c4
   have H1 : ((cmp_isNaN_int.f a1).bind fun t268 => (if t268 = true then (some (decide (a0 < a1))) else (some true))) = some r := by rw [if_pos rfl] at H; exact H
   clear H
   have H := H1
   clear H1
   replace H := Option.bind_eq_some_iff.mp H
   obtain ⟨t268, A50, H⟩ := H
   replace H : (if t268 = true then (some (decide (a0 < a1))) else (some true)) = some r := H
   have A5 := zaa.mk A50
   clear A50
   by_cases c6 : t268 = true
   · subst c6
     have H1 : (some (decide (a0 < a1))) = some r := by rw [if_pos rfl] at H; exact H
     clear H
     have H := H1
     clear H1
     obtain rfl := Option.some.inj H
     go_enter Tryz.func84, Tryz.ntmps84
     go_wp2_with (first | ((with_reducible refine zxa (f := 88) rfl ?_); refine zhd (some 6) rfl rfl Tryz.func88 (by kernel_rfl) rfl #[.int .i64 a0] rfl (by (try simp only [List.map_toArray, List.map_cons, List.map_nil]); first | done | rfl | (simp only [List.length_drop, List.length_take]; rfl)) ?_; (with_reducible refine (cmp_isNaN_int.calls a0 true _ A3.out).mono ?_); rintro e w' ⟨rfl, ⟨nd, rfl⟩⟩; refine ⟨_, rfl, ?_⟩) | (go_at_call 88; (with_reducible refine (cmp_isNaN_int.calls a1 true _ A5.out).mono ?_); rintro e w' ⟨rfl, ⟨nd, rfl⟩⟩))
     go_ret
     exact ⟨by first | rfl | (simp; done) | (simp [*]; done), by repeat (first | exact zjc.refl _ | apply zjc.step)⟩
   · replace c6 := Bool.eq_false_iff.mpr c6
     subst c6
     have H1 : (some true) = some r := by rw [if_neg (show ¬ (false = true) by decide)] at H; exact H
     clear H
     have H := H1
     clear H1
     obtain rfl := Option.some.inj H
     go_enter Tryz.func84, Tryz.ntmps84
     go_wp2_with (first | ((with_reducible refine zxa (f := 88) rfl ?_); refine zhd (some 6) rfl rfl Tryz.func88 (by kernel_rfl) rfl #[.int .i64 a0] rfl (by (try simp only [List.map_toArray, List.map_cons, List.map_nil]); first | done | rfl | (simp only [List.length_drop, List.length_take]; rfl)) ?_; (with_reducible refine (cmp_isNaN_int.calls a0 true _ A3.out).mono ?_); rintro e w' ⟨rfl, ⟨nd, rfl⟩⟩; refine ⟨_, rfl, ?_⟩) | (go_at_call 88; (with_reducible refine (cmp_isNaN_int.calls a1 false _ A5.out).mono ?_); rintro e w' ⟨rfl, ⟨nd, rfl⟩⟩))
     go_ret
     exact ⟨by first | rfl | (simp; done) | (simp [*]; done), by repeat (first | exact zjc.refl _ | apply zjc.step)⟩
 · replace c4 := Bool.eq_false_iff.mpr c4
   subst c4
   have H1 : (some (decide (a0 < a1))) = some r := by rw [if_neg (show ¬ (false = true) by decide)] at H; exact H
   clear H
   have H := H1
   clear H1
   obtain rfl := Option.some.inj H
   go_enter Tryz.func84, Tryz.ntmps84
   go_wp2_with (first | ((with_reducible refine zxa (f := 88) rfl ?_); refine zhd (some 6) rfl rfl Tryz.func88 (by kernel_rfl) rfl #[.int .i64 a0] rfl (by (try simp only [List.map_toArray, List.map_cons, List.map_nil]); first | done | rfl | (simp only [List.length_drop, List.length_take]; rfl)) ?_; (with_reducible refine (cmp_isNaN_int.calls a0 false _ A3.out).mono ?_); rintro e w' ⟨rfl, ⟨nd, rfl⟩⟩; refine ⟨_, rfl, ?_⟩))
   go_ret
   exact ⟨by first | rfl | (simp; done) | (simp [*]; done), by repeat (first | exact zjc.refl _ | apply zjc.step)⟩
end Go.Proofs.YtoacbkoenkiahaaGreat.PTopGluePlate
end
section
namespace Go.Proofs.YtoacbkoenkiahaaGreat.PTopGluePlate
open Go.RowKit Go.Proofs.YtoacbkoenkiahaaGreatW.PrintWords Go.Proofs.YtoacbkoenkiahaaGreatW.PrintLast Go.Proofs.YtoacbkoenkiahaaGreatW.PrintMore
attribute [local go_sem] znb zlb zhc zgc zeb zdb zmb zkb
set_option linter.unusedVariables false
set_option linter.unusedSimpArgs false
def zvb.l0 : Nat → List Int → Int → Option (Bool)
 | 0, _, _ => none
 | k + 1, x0, x3 => if x3 > 0 then (if 0 ≤ x3 then (if x3 < (x0.length : Int) then (if 0 ≤ (wrap64 (x3 - 1)) then (if (wrap64 (x3 - 1)) < (x0.length : Int) then ((cmp_Less_int.f (rd x0 x3) (rd x0 (wrap64 (x3 - 1)))).bind fun t271 => (if t271 = true then (some false) else (zvb.l0 k x0 (wrap64 (x3 - 1))))) else (none)) else (none)) else (none)) else (none)) else (some true)
def zvb.f (k : Nat) (l0 : List Int) : Option (Bool) := zvb.l0 k l0 (wrap64 ((l0.length : Int) - 1))
set_option maxHeartbeats 8000000 in
set_option maxRecDepth 100000 in
theorem zvb.calls (k : Nat) (A0 : Option Addr) (c0 : Nat) (l0 : List Int) (r : Bool) (w : World) (hr0 : Kd.C (Kd.int .i64) w A0 l0.length l0) (hc0 : l0.length ≤ c0) (h : zvb.f k l0 = some r) :
 Calls Tryz.prog 69 #[.slice A0 l0.length c0] w fun e w' => e = .returned (.bool r) ∧ zjc w w' := by
 have HR0 := zaa.mk hr0
 have HC0 := zaa.mk hc0
 clear hr0 hc0
 have H : (zvb.l0 k l0 (wrap64 ((l0.length : Int) - 1))) = some r := h
 clear h
 have H' := zaa.mk H
 clear H
 go_enter Tryz.func69, Tryz.ntmps69
 go_wp2
 repeat (go_quiet (fail); try go_wp2)
 go_loopg [3] k (fun kq v3 w' => ∃ (x3_1 : Int), v3 = .int .i64 x3_1 ∧ zaa (zvb.l0 kq l0 x3_1 = some r) ∧ zaa (kq ≤ k) ∧ zjc w w')
 case atStart => exact ⟨(wrap64 ((l0.length : Int) - 1)), (by first | rfl | (simp; done) | (simp [*]; done)), H', ⟨Nat.le_refl _⟩, by repeat (first | exact zjc.refl _ | apply zjc.step)⟩
 case round =>
  clear H'
  obtain ⟨x3_1, rfl, HA, HK1, ⟨m1, rfl⟩⟩ := hrel
  cases gk with
  | zero => exact absurd HA.out (by simp [zvb.l0])
  | succ k1 =>
   have H := HA.out
   clear HA
   simp only [zvb.l0] at H
   by_cases c2 : x3_1 > 0
   · rw [if_pos c2] at H
     have c2b0 : decide (0 < x3_1) = true := decide_eq_true c2
     clear c2
     by_cases c3 : 0 ≤ x3_1
     · rw [if_pos c3] at H
       have c3b0 : decide (0 ≤ x3_1) = true := decide_eq_true c3
       clear c3
       by_cases c4 : x3_1 < (l0.length : Int)
       · rw [if_pos c4] at H
         have c4b0 : decide (x3_1 < (l0.length : Int)) = true := decide_eq_true c4
         clear c4
         obtain ⟨ji5, hji5⟩ : ∃ j_ : Int, (wrap64 (x3_1 - 1)) = j_ := ⟨_, rfl⟩
         replace H : (if 0 ≤ (ji5) then (if (ji5) < (l0.length : Int) then ((cmp_Less_int.f (rd l0 x3_1) (rd l0 (ji5))).bind fun t271 => (if t271 = true then (some false) else (zvb.l0 k1 l0 ji5))) else (none)) else (none)) = some r := by first | (rw [hji5] at H; exact H) | (simp only [hji5] at H ⊢; exact H)
         have hji5w : (IntKind.i64.wrap (x3_1 - 1)) = ji5 := (zpb _).trans hji5
         by_cases c6 : 0 ≤ (ji5)
         · rw [if_pos c6] at H
           have c6b0 : decide (0 ≤ (ji5)) = true := decide_eq_true c6
           clear c6
           by_cases c7 : (ji5) < (l0.length : Int)
           · rw [if_pos c7] at H
             have c7b0 : decide ((ji5) < (l0.length : Int)) = true := decide_eq_true c7
             clear c7
             replace H := Option.bind_eq_some_iff.mp H
             obtain ⟨t271, A80, H⟩ := H
             replace H : (if t271 = true then (some false) else (zvb.l0 k1 l0 ji5)) = some r := H
             have A8 := zaa.mk A80
             clear A80
             by_cases c9 : t271 = true
             · subst c9
               have H1 : (some false) = some r := by rw [if_pos rfl] at H; exact H
               clear H
               have H := H1
               clear H1
               obtain rfl := Option.some.inj H
               have p269 : 0 ≤ (x3_1 : Int) := of_decide_eq_true (by first | (with_reducible assumption) | assumption)
               have q269 : x3_1 < (l0.length : Int) := of_decide_eq_true (by first | (with_reducible assumption) | assumption)
               obtain ⟨ad269, e269, hx269_0⟩ := Kd.at_int HR0.out x3_1 p269 q269
               cases e269
               replace p269 := eq_true p269
               replace q269 := eq_true q269
               have p270 : 0 ≤ ((ji5) : Int) := of_decide_eq_true (by first | (with_reducible assumption) | assumption)
               have q270 : (ji5) < (l0.length : Int) := of_decide_eq_true (by first | (with_reducible assumption) | assumption)
               obtain ⟨ad270, e270, hx270_0⟩ := Kd.at_int HR0.out (ji5) p270 q270
               obtain rfl : ad269 = ad270 := (by injection e270)
               replace p270 := eq_true p270
               replace q270 := eq_true q270
               go_wp2_with (first | (go_at_call 84; (with_reducible refine (cmp_Less_int.calls (rd l0 x3_1) (rd l0 (ji5)) true _ A8.out).mono ?_); rintro e w' ⟨rfl, ⟨nd, rfl⟩⟩; (try first | exact ⟨rfl, _, World.drewN_drewN _ _ _⟩ | exact ⟨rfl, _, Eq.trans (World.drewN_drewN _ _ _) (congrArg (World.drewN _) (Nat.add_assoc _ _ _))⟩)))
               repeat (go_quiet (first | (go_at_call 84; (with_reducible refine (cmp_Less_int.calls (rd l0 x3_1) (rd l0 (ji5)) true _ A8.out).mono ?_); rintro e w' ⟨rfl, ⟨nd, rfl⟩⟩; (try first | exact ⟨rfl, _, World.drewN_drewN _ _ _⟩ | exact ⟨rfl, _, Eq.trans (World.drewN_drewN _ _ _) (congrArg (World.drewN _) (Nat.add_assoc _ _ _))⟩))); try go_wp2_with (first | (go_at_call 84; (with_reducible refine (cmp_Less_int.calls (rd l0 x3_1) (rd l0 (ji5)) true _ A8.out).mono ?_); rintro e w' ⟨rfl, ⟨nd, rfl⟩⟩; (try first | exact ⟨rfl, _, World.drewN_drewN _ _ _⟩ | exact ⟨rfl, _, Eq.trans (World.drewN_drewN _ _ _) (congrArg (World.drewN _) (Nat.add_assoc _ _ _))⟩))))
               go_ret
               exact ⟨by first | rfl | (simp; done) | (simp only [← hji5] <;> (first | rfl | simp)) | (simp [*]; done), by repeat (first | exact zjc.refl _ | apply zjc.step)⟩
             · replace c9 := Bool.eq_false_iff.mpr c9
               subst c9
               have H1 : (zvb.l0 k1 l0 ji5) = some r := by rw [if_neg (show ¬ (false = true) by decide)] at H; exact H
               clear H
               have H := H1
               clear H1
               have H' := zaa.mk H
               clear H
               have p269 : 0 ≤ (x3_1 : Int) := of_decide_eq_true (by first | (with_reducible assumption) | assumption)
               have q269 : x3_1 < (l0.length : Int) := of_decide_eq_true (by first | (with_reducible assumption) | assumption)
               obtain ⟨ad269, e269, hx269_0⟩ := Kd.at_int HR0.out x3_1 p269 q269
               cases e269
               replace p269 := eq_true p269
               replace q269 := eq_true q269
               have p270 : 0 ≤ ((ji5) : Int) := of_decide_eq_true (by first | (with_reducible assumption) | assumption)
               have q270 : (ji5) < (l0.length : Int) := of_decide_eq_true (by first | (with_reducible assumption) | assumption)
               obtain ⟨ad270, e270, hx270_0⟩ := Kd.at_int HR0.out (ji5) p270 q270
               obtain rfl : ad269 = ad270 := (by injection e270)
               replace p270 := eq_true p270
               replace q270 := eq_true q270
               go_wp2_with (first | (go_at_call 84; (with_reducible refine (cmp_Less_int.calls (rd l0 x3_1) (rd l0 (ji5)) false _ A8.out).mono ?_); rintro e w' ⟨rfl, ⟨nd, rfl⟩⟩; (try first | exact ⟨rfl, _, World.drewN_drewN _ _ _⟩ | exact ⟨rfl, _, Eq.trans (World.drewN_drewN _ _ _) (congrArg (World.drewN _) (Nat.add_assoc _ _ _))⟩)))
               repeat (go_quiet (first | (go_at_call 84; (with_reducible refine (cmp_Less_int.calls (rd l0 x3_1) (rd l0 (ji5)) false _ A8.out).mono ?_); rintro e w' ⟨rfl, ⟨nd, rfl⟩⟩; (try first | exact ⟨rfl, _, World.drewN_drewN _ _ _⟩ | exact ⟨rfl, _, Eq.trans (World.drewN_drewN _ _ _) (congrArg (World.drewN _) (Nat.add_assoc _ _ _))⟩))); try go_wp2_with (first | (go_at_call 84; (with_reducible refine (cmp_Less_int.calls (rd l0 x3_1) (rd l0 (ji5)) false _ A8.out).mono ?_); rintro e w' ⟨rfl, ⟨nd, rfl⟩⟩; (try first | exact ⟨rfl, _, World.drewN_drewN _ _ _⟩ | exact ⟨rfl, _, Eq.trans (World.drewN_drewN _ _ _) (congrArg (World.drewN _) (Nat.add_assoc _ _ _))⟩))))
               go_roundg k1
               case measure => have := HK1.out; omega
               case rel => exact ⟨(ji5), (by first | rfl | (simp; done) | (simp only [← hji5] <;> (first | rfl | simp)) | (simp [*]; done)), H', ⟨by have := HK1.out; omega⟩, by repeat (first | exact zjc.refl _ | apply zjc.step)⟩
           · rw [if_neg c7] at H
             exact absurd H (by simp)
         · rw [if_neg c6] at H
           exact absurd H (by simp)
       · rw [if_neg c4] at H
         exact absurd H (by simp)
     · rw [if_neg c3] at H
       exact absurd H (by simp)
   · rw [if_neg c2] at H
     have c2b0 : decide (0 < x3_1) = false := decide_eq_false c2
     clear c2
     obtain rfl := Option.some.inj H
     go_wp2
     repeat (go_quiet (fail); try go_wp2)
     go_ret
     exact ⟨by first | rfl | (simp; done) | (simp [*]; done), by repeat (first | exact zjc.refl _ | apply zjc.step)⟩
end Go.Proofs.YtoacbkoenkiahaaGreat.PTopGluePlate
end
section
namespace Go.Proofs.YtoacbkoenkiahaaGreat.PTopGluePlate
open Go.RowKit Go.Proofs.YtoacbkoenkiahaaGreatW.PrintWords Go.Proofs.YtoacbkoenkiahaaGreatW.PrintLast Go.Proofs.YtoacbkoenkiahaaGreatW.PrintMore
attribute [local go_sem] znb zlb zhc zgc zeb zdb zmb zkb
set_option linter.unusedVariables false
set_option linter.unusedSimpArgs false
def zwb.l0 : Nat → List Int → Int → Option (List Int)
 | 0, _, _ => none
 | k + 1, x0, x3 => if x3 < (x0.length : Int) then (if 0 ≤ x3 then (if 0 ≤ (wrap64 (x3 - 1)) then (if (wrap64 (x3 - 1)) < (x0.length : Int) then (if (rd x0 x3) = (rd x0 (wrap64 (x3 - 1))) then (none) else (zwb.l0 k x0 (wrap64 (x3 + 1)))) else (none)) else (none)) else (none)) else (some x0)
def zwb.f (k : Nat) (l0 : List Int) : Option (List Int) := if (l0.length : Int) < 2 then (some l0) else (zwb.l0 k l0 1)
set_option maxHeartbeats 8000000 in
set_option maxRecDepth 100000 in
theorem zwb.calls (k : Nat) (P0_ : Nat → Prop) (A0 : Option Addr) (c0 : Nat) (l0 : List Int) (r : List Int) (w : World) (hs0 : Kd.V (Kd.int .i64) 3 w w.heap.size (fun k_ => P0_ k_) (.slice A0 l0.length c0) l0) (h : zwb.f k l0 = some r) :
 Calls Tryz.prog 70 #[.slice A0 l0.length c0] w fun e w' => ∃ v0_ : Value, e = .returned (v0_) ∧ Kd.V (Kd.int .i64) 3 w' w.heap.size (fun k_ => (P0_ k_ ∨ w.heap.size ≤ k_)) v0_ r ∧ Below w.heap.size w w' := by
 have HO0 := zaa.mk (show Kd.V (Kd.int .i64) 3 w w.heap.size (fun k_ => (P0_ k_ ∨ w.heap.size ≤ k_)) (.slice A0 l0.length c0) l0 from Kd.zcc hs0 (fun k_ hk => .inl hk))
 have HB := zaa.mk (Below.refl w.heap.size w)
 have H : (if (l0.length : Int) < 2 then (some l0) else (zwb.l0 k l0 1)) = some r := h
 clear h
 by_cases c2 : (l0.length : Int) < 2
 · rw [if_pos c2] at H
   have c2b0 : decide ((l0.length : Int) < 2) = true := decide_eq_true c2
   have c2b1 : decide (l0.length < 2) = true := decide_eq_true (by omega)
   clear c2
   obtain rfl := Option.some.inj H
   go_enter Tryz.func70, Tryz.ntmps70
   go_wp2
   repeat (go_quiet (fail); try go_wp2)
   go_ret
   exact ⟨_, by first | rfl | (simp [zwa, zva] <;> rfl) | (simp [*, zwa, zva] <;> rfl), by (with_reducible repeat (first | apply Kd.zza | apply Kd.zya | apply Kd.zib)); exact HO0.out, by repeat (first | (with_reducible first | exact HB.out | apply zda | apply zba | apply zca) | exact HB.out)⟩
 · rw [if_neg c2] at H
   have c2b0 : decide ((l0.length : Int) < 2) = false := decide_eq_false c2
   have c2b1 : decide (l0.length < 2) = false := decide_eq_false (by omega)
   clear c2
   have H' := zaa.mk H
   clear H
   go_enter Tryz.func70, Tryz.ntmps70
   go_wp2
   repeat (go_quiet (fail); try go_wp2)
   go_loopg [3] k (fun kq v3 w' => ∃ (x0_1 : List Int) (x3_1 : Int), v3 = .int .i64 x3_1 ∧ zaa (zwb.l0 kq x0_1 x3_1 = some r) ∧ zaa (kq ≤ k) ∧ zaa (Kd.V (Kd.int .i64) 3 w' w.heap.size (fun k_ => (P0_ k_ ∨ w.heap.size ≤ k_)) (.slice A0 l0.length c0) x0_1) ∧ zaa (Below w.heap.size w w'))
   case atStart => exact ⟨(l0), (1), (by first | rfl | (simp; done) | (simp [*]; done)), H', ⟨Nat.le_refl _⟩, ⟨by (with_reducible repeat (first | apply Kd.zza | apply Kd.zya | apply Kd.zib)); exact HO0.out⟩, ⟨by repeat (first | (with_reducible first | exact HB.out | apply zda | apply zba | apply zca) | exact HB.out)⟩⟩
   case round =>
    clear H'
    try clear c2
    try clear c2b0
    try clear c2b1
    try clear p2
    obtain ⟨x0_1, x3_1, rfl, HA, HK1, HO_0, HB⟩ := hrel
    have hl0_1 := (Kd.zwd HO_0.out).1
    rw [hl0_1] at HO_0
    (try simp only [hl0_1])
    cases gk with
    | zero => exact absurd HA.out (by simp [zwb.l0])
    | succ k1 =>
     have H := HA.out
     clear HA
     simp only [zwb.l0] at H
     by_cases c3 : x3_1 < (x0_1.length : Int)
     · rw [if_pos c3] at H
       have c3b0 : decide (x3_1 < (x0_1.length : Int)) = true := decide_eq_true c3
       try (have c3b0hl0_1 := c3b0; rw [hl0_1] at c3b0hl0_1)
       clear c3
       by_cases c4 : 0 ≤ x3_1
       · rw [if_pos c4] at H
         have c4b0 : decide (0 ≤ x3_1) = true := decide_eq_true c4
         clear c4
         obtain ⟨ji5, hji5⟩ : ∃ j_ : Int, (wrap64 (x3_1 - 1)) = j_ := ⟨_, rfl⟩
         replace H : (if 0 ≤ (ji5) then (if (ji5) < (x0_1.length : Int) then (if (rd x0_1 x3_1) = (rd x0_1 (ji5)) then (none) else (zwb.l0 k1 x0_1 (wrap64 (x3_1 + 1)))) else (none)) else (none)) = some r := by first | (rw [hji5] at H; exact H) | (simp only [hji5] at H ⊢; exact H)
         have hji5w : (IntKind.i64.wrap (x3_1 - 1)) = ji5 := (zpb _).trans hji5
         by_cases c6 : 0 ≤ (ji5)
         · rw [if_pos c6] at H
           have c6b0 : decide (0 ≤ (ji5)) = true := decide_eq_true c6
           clear c6
           by_cases c7 : (ji5) < (x0_1.length : Int)
           · rw [if_pos c7] at H
             have c7b0 : decide ((ji5) < (x0_1.length : Int)) = true := decide_eq_true c7
             try (have c7b0hl0_1 := c7b0; rw [hl0_1] at c7b0hl0_1)
             clear c7
             by_cases c8 : (rd x0_1 x3_1) = (rd x0_1 (ji5))
             · rw [if_pos c8] at H
               exact absurd H (by simp)
             · rw [if_neg c8] at H
               have c8b0 : ((rd x0_1 x3_1) == (rd x0_1 (ji5))) = false := beq_eq_false_iff_ne.mpr c8
               have c8b1 : ((rd x0_1 x3_1) != (rd x0_1 (ji5))) = true := bne_iff_ne.mpr c8
               have H' := zaa.mk H
               clear H
               have p272 : 0 ≤ (x3_1 : Int) := of_decide_eq_true (by first | (with_reducible assumption) | assumption)
               have q272 : x3_1 < (x0_1.length : Int) := of_decide_eq_true (by first | (with_reducible assumption) | assumption)
               obtain ⟨ad272, e272, hx272_0⟩ := Kd.at_int (Kd.zwd HO_0.out).2.2 x3_1 p272 q272
               cases e272
               replace p272 := eq_true p272
               replace q272 := eq_true q272
               have p273 : 0 ≤ ((ji5) : Int) := of_decide_eq_true (by first | (with_reducible assumption) | assumption)
               have q273 : (ji5) < (x0_1.length : Int) := of_decide_eq_true (by first | (with_reducible assumption) | assumption)
               obtain ⟨ad273, e273, hx273_0⟩ := Kd.at_int (Kd.zwd HO_0.out).2.2 (ji5) p273 q273
               obtain rfl : ad272 = ad273 := (by injection e273)
               replace p273 := eq_true p273
               replace q273 := eq_true q273
               go_wp2
               repeat (go_quiet (fail); try go_wp2)
               (try simp only [← hl0_1])
               go_roundg k1
               case measure => have := HK1.out; omega
               case rel => exact ⟨(x0_1), (wrap64 (x3_1 + 1)), (by first | rfl | (simp; done) | (simp [*]; done)), H', ⟨by have := HK1.out; omega⟩, ⟨by (try simp only [hl0_1]); (with_reducible repeat (first | apply Kd.zza | apply Kd.zya | apply Kd.zib)); exact HO_0.out⟩, ⟨by repeat (first | (with_reducible first | exact HB.out | apply zda | apply zba | apply zca) | exact HB.out)⟩⟩
           · rw [if_neg c7] at H
             exact absurd H (by simp)
         · rw [if_neg c6] at H
           exact absurd H (by simp)
       · rw [if_neg c4] at H
         exact absurd H (by simp)
     · rw [if_neg c3] at H
       have c3b0 : decide (x3_1 < (x0_1.length : Int)) = false := decide_eq_false c3
       try (have c3b0hl0_1 := c3b0; rw [hl0_1] at c3b0hl0_1)
       clear c3
       obtain rfl := Option.some.inj H
       go_wp2
       repeat (go_quiet (fail); try go_wp2)
       go_ret
       exact ⟨_, by first | rfl | (simp [zwa, zva] <;> rfl) | (simp [*, zwa, zva] <;> rfl), by (with_reducible repeat (first | apply Kd.zza | apply Kd.zya | apply Kd.zib)); exact HO_0.out, by repeat (first | (with_reducible first | exact HB.out | apply zda | apply zba | apply zca) | exact HB.out)⟩
end Go.Proofs.YtoacbkoenkiahaaGreat.PTopGluePlate
end
section
namespace Go.Proofs.YtoacbkoenkiahaaGreat.PTopGluePlate
open Go.RowKit Go.Proofs.YtoacbkoenkiahaaGreatW.PrintWords Go.Proofs.YtoacbkoenkiahaaGreatW.PrintLast Go.Proofs.YtoacbkoenkiahaaGreatW.PrintMore
attribute [local go_sem] znb zlb zhc zgc zeb zdb zmb zkb
set_option linter.unusedVariables false
set_option linter.unusedSimpArgs false
def zad.f (l0 : List (S59)) (a1_0 : Int) (l1_1 : List Int) : Option Bool := containsO (fun (x : S59) => glue_plan_checkLooks_1.f x.f0 x.f1 x.f2 x.f3 a1_0 l1_1) l0
set_option maxHeartbeats 1000000 in
theorem zad.calls (A0 : Option Addr) (c0 : Nat) (l0 : List (S59)) (g1_ : Nat) (a1_0 : Int) (A1_1 : Option Addr) (c1_1 : Nat) (l1_1 : List Int) (r : Bool) (w : World) (hr0 : Kd.C k59 w A0 l0.length l0) (hc0 : l0.length ≤ c0) (hr1_1 : Kd.C (Kd.int .i64) w A1_1 l1_1.length l1_1) (hc1_1 : l1_1.length ≤ c1_1) (hbx1 : w.heap[g1_]? = some (.cells #[.int .i64 a1_0, .slice A1_1 l1_1.length c1_1] 66 (0, 0))) (h : zad.f l0 a1_0 l1_1 = some r) :
 Calls Tryz.prog 51 #[.slice A0 l0.length c0, .func (.func 67) #[] #[.pointer (some ⟨g1_, 0, none⟩)]] w fun e w' => e = .returned (.bool r) ∧ Below w.heap.size w w' := by
 have eg : ∀ args w, (callFunc 67 args).run Tryz.prog w = .ok (.enter 67 args) w := enters_of Tryz.func67 (by kernel_rfl) rfl
 refine slices_ContainsFunc_api_GlueLook.calls 67 #[.pointer (some ⟨g1_, 0, none⟩)] (fun (x : S59) => glue_plan_checkLooks_1.f x.f0 x.f1 x.f2 x.f3 a1_0 l1_1) A0 c0 l0 r w hr0 hc0 eg ?_ h
 intro W x hx hW b hb
 refine (glue_plan_checkLooks_1.calls x.f0 x.f1 x.f2 x.f3 g1_ a1_0 _ _ l1_1 b W (Kd.zkc hr1_1 hW) hc1_1 ((hW.block _ (zbc hbx1)).trans hbx1) hb).mono ?_
 rintro e w' ⟨rfl, hd⟩; exact ⟨rfl, hd⟩
mutual
def zua.j0 : Nat → List Int → List (S59) → Bool → Int → List Int → Option (Int)
 | 0, _, _, _, _, _ => none
 | k + 1, x1, x2, x8, x275000, x275001 => if (x1.length : Int) > 5 then (zua.j1 k x1 x2 x8 (decide ((x1.length : Int) > 5)) x275000 x275001) else (zua.j1 k x1 x2 x8 (decide ((x2.length : Int) > 40)) x275000 x275001)
def zua.j1 : Nat → List Int → List (S59) → Bool → Bool → Int → List Int → Option (Int)
 | 0, _, _, _, _, _, _ => none
 | k + 1, x1, x2, x8, x21, x275000, x275001 => if x21 = true then (none) else ((zzd.f x1).bind fun t282 => (if t282 = true then (zua.j2 k x2 (!x8) x275000 x275001) else (zua.j2 k x2 (!t282) x275000 x275001)))
def zua.j2 : Nat → List (S59) → Bool → Int → List Int → Option (Int)
 | 0, _, _, _, _ => none
 | k + 1, x2, x28, x275000, x275001 => if x28 = true then (none) else ((zad.f x2 x275000 x275001).bind fun t283 => (if t283 = true then (none) else (some 0)))
end
def zua.f (k : Nat) (a0_0 : Int) (l0_1 : List Int) (l1 : List Int) (l2 : List (S59)) : Option (Int) := (zvb.f k l1).bind fun t275 => (if t275 = true then ((zlc.f l1).bind fun t276 => ((zwb.f k t276).bind fun t279 => (zua.j0 k l1 l2 ((t279.length : Int) == (l1.length : Int)) a0_0 l0_1))) else (zua.j0 k l1 l2 false a0_0 l0_1))
set_option maxHeartbeats 8000000 in
set_option maxRecDepth 100000 in
theorem zua.calls (k : Nat) (a0_0 : Int) (A0_1 : Option Addr) (c0_1 : Nat) (l0_1 : List Int) (A1 : Option Addr) (c1 : Nat) (l1 : List Int) (A2 : Option Addr) (c2 : Nat) (l2 : List (S59)) (r : Int) (w : World) (hr0_1 : Kd.C (Kd.int .i64) w A0_1 l0_1.length l0_1) (hc0_1 : l0_1.length ≤ c0_1) (hr1 : Kd.C (Kd.int .i64) w A1 l1.length l1) (hc1 : l1.length ≤ c1) (hr2 : Kd.C k59 w A2 l2.length l2) (hc2 : l2.length ≤ c2) (h : zua.f k a0_0 l0_1 l1 l2 = some r) :
 Calls Tryz.prog 47 #[.agg #[.int .i64 a0_0, .slice A0_1 l0_1.length c0_1], .slice A1 l1.length c1, .slice A2 l2.length c2] w fun e w' => e = .returned (.int .i64 r) ∧ Below w.heap.size w w' := by
 have hu66 := Tryz.underlying66
 have HR0_1 := zaa.mk hr0_1
 have HC0_1 := zaa.mk hc0_1
 clear hr0_1 hc0_1
 have HR1 := zaa.mk hr1
 have HC1 := zaa.mk hc1
 clear hr1 hc1
 have HR2 := zaa.mk hr2
 have HC2 := zaa.mk hc2
 clear hr2 hc2
 have HB := zaa.mk (Below.refl w.heap.size w)
 have H : ((zvb.f k l1).bind fun t275 => (if t275 = true then ((zlc.f l1).bind fun t276 => ((zwb.f k t276).bind fun t279 => (zua.j0 k l1 l2 ((t279.length : Int) == (l1.length : Int)) a0_0 l0_1))) else (zua.j0 k l1 l2 false a0_0 l0_1))) = some r := h
 clear h
 have HC4 := zaa.mk H
 clear H
 go_enter Tryz.func47, Tryz.ntmps47
 go_upto_region 2 with (first | ((with_reducible refine zbb (N := 3) rfl ?_); (try (refine zid (by rfl) ?_; dsimp only)); refine zob ?hg (N := 3) ?hd (cs := #[.int .i64 a0_0, .slice A0_1 l0_1.length c0_1]) (t := 66) ?hr ?_; (case hd => rfl); (case hg => rfl); (case hr => first | (go_simp; done) | (go_simp; rfl)); intro gb274 hg w5 hbox hb; have BK274 := zaa.mk (hbox); have GW274 := zaa.mk ((by rw [hg]; exact (zja (by repeat (first | (with_reducible first | exact HB.out | apply zda | apply zba | apply zca) | exact HB.out))) : w.heap.size ≤ gb274)); have GE274 := zaa.mk ((by rw [hg]; exact (zja (by repeat (first | (with_reducible first | exact HB.out | apply zda | apply zba | apply zca) | exact HB.out))) : w.heap.size ≤ gb274)); replace HB := zaa.mk (zma (by repeat (first | (with_reducible first | exact HB.out | apply zda | apply zba | apply zca) | exact HB.out)) hb); clear hb hbox hg))
 (try simp only [Act.put, List.setIfInBounds_toArray, List.set_cons_zero, List.set_cons_succ])
 go_cut [8] (fun v8 wc => ∃ (kq : Nat) (x8_3 : Bool), v8 = .bool x8_3 ∧ zaa (zua.j0 kq l1 l2 x8_3 a0_0 l0_1 = some r) ∧ zaa (kq ≤ k) ∧ zaa (wc.heap[gb274]? = some (.cells #[.int .i64 a0_0, (.slice A0_1 l0_1.length c0_1)] 66 (0, 0))) ∧ zaa (Below w.heap.size w wc))
 case first =>
  have H := HC4.out
  clear HC4
  replace H := Option.bind_eq_some_iff.mp H
  obtain ⟨t275, A60, H⟩ := H
  replace H : (if t275 = true then ((zlc.f l1).bind fun t276 => ((zwb.f k t276).bind fun t279 => (zua.j0 k l1 l2 ((t279.length : Int) == (l1.length : Int)) a0_0 l0_1))) else (zua.j0 k l1 l2 false a0_0 l0_1)) = some r := H
  have A6 := zaa.mk A60
  clear A60
  by_cases c7 : t275 = true
  · subst c7
    have H1 : ((zlc.f l1).bind fun t276 => ((zwb.f k t276).bind fun t279 => (zua.j0 k l1 l2 ((t279.length : Int) == (l1.length : Int)) a0_0 l0_1))) = some r := by rw [if_pos rfl] at H; exact H
    clear H
    have H := H1
    clear H1
    replace H := Option.bind_eq_some_iff.mp H
    obtain ⟨t276, A80, H⟩ := H
    replace H : ((zwb.f k t276).bind fun t279 => (zua.j0 k l1 l2 ((t279.length : Int) == (l1.length : Int)) a0_0 l0_1)) = some r := H
    have A8 := zaa.mk A80
    clear A80
    replace H := Option.bind_eq_some_iff.mp H
    obtain ⟨t279, A90, H⟩ := H
    replace H : (zua.j0 k l1 l2 ((t279.length : Int) == (l1.length : Int)) a0_0 l0_1) = some r := H
    have A9 := zaa.mk A90
    clear A90
    have H' := zaa.mk H
    clear H
    go_wp2_with (first | ((with_reducible refine zxa (f := 69) rfl ?_); refine zhd (some 11) rfl rfl Tryz.func69 (by kernel_rfl) rfl #[.slice A1 l1.length c1] rfl (by (try simp only [List.map_toArray, List.map_cons, List.map_nil]); first | done | rfl | (simp only [List.length_drop, List.length_take]; rfl)) ?_; (with_reducible refine (zvb.calls k _ _ l1 true _ ?side1 ?side2 A6.out).mono ?_); (case side1 => repeat (first | exact (Kd.zkc HR1.out HB.out) | (with_reducible refine Kd.zrb ?_ _) | (with_reducible refine Kd.zqb ?_ _) | (with_reducible refine Kd.zmc ?_))); (case side2 => exact HC1.out); rintro e w' ⟨rfl, ⟨nd, rfl⟩⟩; refine ⟨_, rfl, ?_⟩) | (go_at_call 35; (with_reducible refine (zlc.calls _ _ l1 t276 _ ?side1 ?side2 A8.out).mono ?_); (case side1 => repeat (first | exact (Kd.zkc HR1.out (by repeat (first | (with_reducible first | exact HB.out | apply zda | apply zba | apply zca | refine zea ?_ GE274.out) | exact HB.out))) | (with_reducible refine Kd.zrb ?_ _) | (with_reducible refine Kd.zqb ?_ _) | (with_reducible refine Kd.zmc ?_))); (case side2 => exact HC1.out); rintro e w10 ⟨v277, rfl, ho0, hb⟩; have HO278 := zaa.mk (Kd.znd ho0 (zja (by repeat (first | (with_reducible first | exact HB.out | apply zda | apply zba | apply zca | refine zea ?_ GE274.out) | exact HB.out)))); replace BK274 := zaa.mk (zna (g := gb274) (o := .cells #[.int .i64 a0_0, .slice A0_1 l0_1.length c0_1] 66 (0, 0)) (by (with_reducible repeat (first | refine zga ?_ _ | refine zha ?_ | refine zfa ?_ _)); exact BK274.out) hb); replace HB := zaa.mk (zma (by repeat (first | (with_reducible first | exact HB.out | apply zda | apply zba | apply zca | refine zea ?_ GE274.out) | exact HB.out)) hb); (try clear hb); (try clear hb2); (try clear hk); (try clear hi); (try clear ho0); obtain ⟨Ao11, co11, eo11⟩ := Kd.zfd HO278.out; subst eo11) | (go_at_call 70; (with_reducible refine (zwb.calls k (fun k_ => some k_ = (.slice Ao11 t276.length co11 : Value).ownBlock) _ _ t276 t279 _ ?side1 A9.out).mono ?_); (case side1 => exact Kd.R_V (Kd.R_tight rfl (Kd.zpc (HO278.out) BK274.out (by decide)))); rintro e w12 ⟨v280, rfl, ho0, hb⟩; have HO281 := zaa.mk (Kd.V_lower (Kd.zcc (ok' := fun k_ => k_ ≠ gb274) ho0 (fun k_ hk_ => Or.elim hk_ (fun hs_ => ((Kd.zpc (HO278.out) BK274.out (by decide)).1 k_ hs_.symm).2) (fun hn_ => (Kd.freshB (g := gb274) (o := .cells #[.int .i64 a0_0, .slice A0_1 l0_1.length c0_1] 66 (0, 0)) (by (with_reducible repeat (first | refine zga ?_ _ | refine zha ?_ | refine zfa ?_ _)); exact BK274.out) k_ hn_)))) (zja (by repeat (first | (with_reducible first | exact HB.out | apply zda | apply zba | apply zca | refine zea ?_ GE274.out) | exact HB.out)))); replace HO278 := zaa.mk (Kd.zcb (by (with_reducible repeat (first | apply Kd.zqa | apply Kd.zpa | apply Kd.zsa)); exact HO278.out) hb); replace BK274 := zaa.mk (zna (g := gb274) (o := .cells #[.int .i64 a0_0, .slice A0_1 l0_1.length c0_1] 66 (0, 0)) (by (with_reducible repeat (first | refine zga ?_ _ | refine zha ?_ | refine zfa ?_ _)); exact BK274.out) hb); replace HB := zaa.mk (zma (by repeat (first | (with_reducible first | exact HB.out | apply zda | apply zba | apply zca | refine zea ?_ GE274.out) | exact HB.out)) hb); (try clear hb); (try clear hb2); (try clear hk); (try clear hi); (try clear ho0); obtain ⟨Ao13, co13, eo13⟩ := Kd.V_slice HO281.out; subst eo13))
    go_meet
    case rel => exact ⟨_, (((t279.length : Int) == (l1.length : Int))), (by first | rfl | (simp; done) | (simp [*]; done)), H', ⟨by first | omega | exact Nat.le_refl _⟩, ⟨by (with_reducible repeat (first | refine zga ?_ _ | refine zha ?_ | refine zfa ?_ _)); exact BK274.out⟩, ⟨by repeat (first | (with_reducible first | exact HB.out | apply zda | apply zba | apply zca | refine zea ?_ GE274.out) | exact HB.out)⟩⟩
  · replace c7 := Bool.eq_false_iff.mpr c7
    subst c7
    have H1 : (zua.j0 k l1 l2 false a0_0 l0_1) = some r := by rw [if_neg (show ¬ (false = true) by decide)] at H; exact H
    clear H
    have H := H1
    clear H1
    have H' := zaa.mk H
    clear H
    go_wp2_with (first | ((with_reducible refine zxa (f := 69) rfl ?_); refine zhd (some 11) rfl rfl Tryz.func69 (by kernel_rfl) rfl #[.slice A1 l1.length c1] rfl (by (try simp only [List.map_toArray, List.map_cons, List.map_nil]); first | done | rfl | (simp only [List.length_drop, List.length_take]; rfl)) ?_; (with_reducible refine (zvb.calls k _ _ l1 false _ ?side1 ?side2 A6.out).mono ?_); (case side1 => repeat (first | exact (Kd.zkc HR1.out HB.out) | (with_reducible refine Kd.zrb ?_ _) | (with_reducible refine Kd.zqb ?_ _) | (with_reducible refine Kd.zmc ?_))); (case side2 => exact HC1.out); rintro e w' ⟨rfl, ⟨nd, rfl⟩⟩; refine ⟨_, rfl, ?_⟩))
    go_meet
    case rel => exact ⟨_, (false), (by first | rfl | (simp; done) | (simp [*]; done)), H', ⟨by first | omega | exact Nat.le_refl _⟩, ⟨by (with_reducible repeat (first | refine zga ?_ _ | refine zha ?_ | refine zfa ?_ _)); exact BK274.out⟩, ⟨by repeat (first | (with_reducible first | exact HB.out | apply zda | apply zba | apply zca | refine zea ?_ GE274.out) | exact HB.out)⟩⟩
 case rest =>
  clear HC4
  try clear c1
  try clear c2
  try clear p2
  try clear c4
  try clear c6
  try clear c7
  obtain ⟨kq, x8_3, rfl, HA, HJ3, BK274, HB⟩ := hcut
  cases kq with
  | zero => exact absurd HA.out (by simp [zua.j0])
  | succ kj3 =>
   have H := HA.out
   clear HA
   simp only [zua.j0] at H
   have HC14 := zaa.mk H
   clear H
   go_upto_if 21 with (fail)
   go_cut [21] (fun v21 wc => ∃ (kq : Nat) (x21_13 : Bool), v21 = .bool x21_13 ∧ zaa (zua.j1 kq l1 l2 x8_3 x21_13 a0_0 l0_1 = some r) ∧ zaa (kq ≤ kj3) ∧ zaa (wc.heap[gb274]? = some (.cells #[.int .i64 a0_0, (.slice A0_1 l0_1.length c0_1)] 66 (0, 0))) ∧ zaa (Below w.heap.size w wc))
   case first =>
    have H := HC14.out
    clear HC14
    by_cases c15 : (l1.length : Int) > 5
    · rw [if_pos c15] at H
      have c15b0 : decide (5 < (l1.length : Int)) = true := decide_eq_true c15
      have c15b1 : decide (5 < l1.length) = true := decide_eq_true (by omega)
      clear c15
      (first | rw [c15b0] | (simp only [zpb, zzb]; rw [c15b0]) | skip)
      have H' := zaa.mk H
      clear H
      go_wp2
      go_meet
      case rel => exact ⟨_, (decide ((l1.length : Int) > 5)), (by first | rfl | (simp; done) | (simp [*]; done)), H', ⟨by have := HJ3.out; first | omega | exact Nat.le_refl _⟩, ⟨by (with_reducible repeat (first | refine zga ?_ _ | refine zha ?_ | refine zfa ?_ _)); exact BK274.out⟩, ⟨by repeat (first | (with_reducible first | exact HB.out | apply zda | apply zba | apply zca | refine zea ?_ GE274.out) | exact HB.out)⟩⟩
    · rw [if_neg c15] at H
      have c15b0 : decide (5 < (l1.length : Int)) = false := decide_eq_false c15
      have c15b1 : decide (5 < l1.length) = false := decide_eq_false (by omega)
      clear c15
      (first | rw [c15b0] | (simp only [zpb, zzb]; rw [c15b0]) | skip)
      have H' := zaa.mk H
      clear H
      go_wp2
      go_meet
      case rel => exact ⟨_, (decide ((l2.length : Int) > 40)), (by first | rfl | (simp; done) | (simp [*]; done)), H', ⟨by have := HJ3.out; first | omega | exact Nat.le_refl _⟩, ⟨by (with_reducible repeat (first | refine zga ?_ _ | refine zha ?_ | refine zfa ?_ _)); exact BK274.out⟩, ⟨by repeat (first | (with_reducible first | exact HB.out | apply zda | apply zba | apply zca | refine zea ?_ GE274.out) | exact HB.out)⟩⟩
   case rest =>
    clear HC14
    try clear c1
    try clear c2
    try clear p2
    try clear c4
    try clear c6
    try clear c7
    try clear c15
    try clear c15b0
    try clear c15b1
    try clear p2
    obtain ⟨kq, x21_13, rfl, HA, HJ13, BK274, HB⟩ := hcut
    cases kq with
    | zero => exact absurd HA.out (by simp [zua.j1])
    | succ kj13 =>
     have H := HA.out
     clear HA
     simp only [zua.j1] at H
     by_cases c16 : x21_13 = true
     · subst c16
       have H1 : (none) = some r := by rw [if_pos rfl] at H; exact H
       clear H
       have H := H1
       clear H1
       exact absurd H (by simp)
     · replace c16 := Bool.eq_false_iff.mpr c16
       subst c16
       have H1 : ((zzd.f l1).bind fun t282 => (if t282 = true then (zua.j2 kj13 l2 (!x8_3) a0_0 l0_1) else (zua.j2 kj13 l2 (!t282) a0_0 l0_1))) = some r := by rw [if_neg (show ¬ (false = true) by decide)] at H; exact H
       clear H
       have H := H1
       clear H1
       replace H := Option.bind_eq_some_iff.mp H
       obtain ⟨t282, A170, H⟩ := H
       replace H : (if t282 = true then (zua.j2 kj13 l2 (!x8_3) a0_0 l0_1) else (zua.j2 kj13 l2 (!t282) a0_0 l0_1)) = some r := H
       have A17 := zaa.mk A170
       clear A170
       have HC18 := zaa.mk H
       clear H
       go_upto_if 28 with (first | ((with_reducible refine zxa (f := 16) rfl ?_); refine zhd (some 30) rfl rfl Tryz.func16 (by kernel_rfl) rfl #[.slice A1 l1.length c1] rfl (by (try simp only [List.map_toArray, List.map_cons, List.map_nil]); first | done | rfl | (simp only [List.length_drop, List.length_take]; rfl)) ?_; (with_reducible refine (zzd.calls _ _ l1 t282 _ ?side1 ?side2 A17.out).mono ?_); (case side1 => repeat (first | exact (Kd.zkc HR1.out HB.out) | (with_reducible refine Kd.zrb ?_ _) | (with_reducible refine Kd.zqb ?_ _) | (with_reducible refine Kd.zmc ?_))); (case side2 => exact HC1.out); rintro e w19 ⟨rfl, hb⟩; refine ⟨_, rfl, ?_⟩; replace BK274 := zaa.mk (zna (g := gb274) (o := .cells #[.int .i64 a0_0, .slice A0_1 l0_1.length c0_1] 66 (0, 0)) (by (with_reducible repeat (first | refine zga ?_ _ | refine zha ?_ | refine zfa ?_ _)); exact BK274.out) hb); replace HB := zaa.mk (zma (by repeat (first | (with_reducible first | exact HB.out | apply zda | apply zba | apply zca | refine zea ?_ GE274.out) | exact HB.out)) hb); (try clear hb); (try clear hb2); (try clear hk); (try clear hi)))
       (try simp only [Act.put, List.setIfInBounds_toArray, List.set_cons_zero, List.set_cons_succ])
       go_cut [28] (fun v28 wc => ∃ (kq : Nat) (x28_17 : Bool), v28 = .bool x28_17 ∧ zaa (zua.j2 kq l2 x28_17 a0_0 l0_1 = some r) ∧ zaa (kq ≤ kj13) ∧ zaa (wc.heap[gb274]? = some (.cells #[.int .i64 a0_0, (.slice A0_1 l0_1.length c0_1)] 66 (0, 0))) ∧ zaa (Below w.heap.size w wc))
       case first =>
        have H := HC18.out
        clear HC18
        by_cases c20 : t282 = true
        · subst c20
          have H1 : (zua.j2 kj13 l2 (!x8_3) a0_0 l0_1) = some r := by rw [if_pos rfl] at H; exact H
          clear H
          have H := H1
          clear H1
          have H' := zaa.mk H
          clear H
          go_wp2
          go_meet
          case rel => exact ⟨_, (!x8_3), (by first | rfl | (simp; done) | (simp [*]; done)), H', ⟨by have := HJ3.out; have := HJ13.out; first | omega | exact Nat.le_refl _⟩, ⟨by (with_reducible repeat (first | refine zga ?_ _ | refine zha ?_ | refine zfa ?_ _)); exact BK274.out⟩, ⟨by repeat (first | (with_reducible first | exact HB.out | apply zda | apply zba | apply zca | refine zea ?_ GE274.out) | exact HB.out)⟩⟩
        · replace c20 := Bool.eq_false_iff.mpr c20
          subst c20
          have H1 : (zua.j2 kj13 l2 (!false) a0_0 l0_1) = some r := by rw [if_neg (show ¬ (false = true) by decide)] at H; exact H
          clear H
          have H := H1
          clear H1
          have H' := zaa.mk H
          clear H
          go_wp2
          go_meet
          case rel => exact ⟨_, (!false), (by first | rfl | (simp; done) | (simp [*]; done)), H', ⟨by have := HJ3.out; have := HJ13.out; first | omega | exact Nat.le_refl _⟩, ⟨by (with_reducible repeat (first | refine zga ?_ _ | refine zha ?_ | refine zfa ?_ _)); exact BK274.out⟩, ⟨by repeat (first | (with_reducible first | exact HB.out | apply zda | apply zba | apply zca | refine zea ?_ GE274.out) | exact HB.out)⟩⟩
       case rest =>
        clear HC18
        try clear c1
        try clear c2
        try clear p2
        try clear c4
        try clear c6
        try clear c7
        try clear c15
        try clear c15b0
        try clear c15b1
        try clear c16
        try clear c20
        try clear p2
        obtain ⟨kq, x28_17, rfl, HA, HJ17, BK274, HB⟩ := hcut
        cases kq with
        | zero => exact absurd HA.out (by simp [zua.j2])
        | succ kj17 =>
         have H := HA.out
         clear HA
         simp only [zua.j2] at H
         by_cases c21 : x28_17 = true
         · subst c21
           have H1 : (none) = some r := by rw [if_pos rfl] at H; exact H
           clear H
           have H := H1
           clear H1
           exact absurd H (by simp)
         · replace c21 := Bool.eq_false_iff.mpr c21
           subst c21
           have H1 : ((zad.f l2 a0_0 l0_1).bind fun t283 => (if t283 = true then (none) else (some 0))) = some r := by rw [if_neg (show ¬ (false = true) by decide)] at H; exact H
           clear H
           have H := H1
           clear H1
           replace H := Option.bind_eq_some_iff.mp H
           obtain ⟨t283, A220, H⟩ := H
           replace H : (if t283 = true then (none) else (some 0)) = some r := H
           have A22 := zaa.mk A220
           clear A220
           by_cases c23 : t283 = true
           · subst c23
             have H1 : (none) = some r := by rw [if_pos rfl] at H; exact H
             clear H
             have H := H1
             clear H1
             exact absurd H (by simp)
           · replace c23 := Bool.eq_false_iff.mpr c23
             subst c23
             have H1 : (some 0) = some r := by rw [if_neg (show ¬ (false = true) by decide)] at H; exact H
             clear H
             have H := H1
             clear H1
             obtain rfl := Option.some.inj H
             go_wp2_with (first | ((with_reducible refine zxa (f := 51) rfl ?_); refine zhd (some 37) rfl rfl Tryz.func51 (by kernel_rfl) rfl #[.slice A2 l2.length c2, .func (.func 67) #[] #[.pointer (some ⟨gb274, 0, none⟩)]] rfl (by (try simp only [List.map_toArray, List.map_cons, List.map_nil]); first | done | rfl | (simp only [List.length_drop, List.length_take]; rfl)) ?_; (with_reducible refine (zad.calls _ _ l2 gb274 a0_0 A0_1 c0_1 l0_1 false _ ?side1 ?side2 ?side3 ?side4 ?side5 A22.out).mono ?_); (case side1 => repeat (first | exact (Kd.zkc HR2.out HB.out) | (with_reducible refine Kd.zrb ?_ _) | (with_reducible refine Kd.zqb ?_ _) | (with_reducible refine Kd.zmc ?_))); (case side2 => exact HC2.out); (case side3 => repeat (first | exact (Kd.zkc HR0_1.out HB.out) | (with_reducible refine Kd.zrb ?_ _) | (with_reducible refine Kd.zqb ?_ _) | (with_reducible refine Kd.zmc ?_))); (case side4 => exact HC0_1.out); (case side5 => (with_reducible repeat (first | refine zga ?_ _ | refine zha ?_ | refine zfa ?_ _)); exact BK274.out); rintro e w24 ⟨rfl, hb⟩; refine ⟨_, rfl, ?_⟩; replace BK274 := zaa.mk (zna (g := gb274) (o := .cells #[.int .i64 a0_0, .slice A0_1 l0_1.length c0_1] 66 (0, 0)) (by (with_reducible repeat (first | refine zga ?_ _ | refine zha ?_ | refine zfa ?_ _)); exact BK274.out) hb); replace HB := zaa.mk (zma (by repeat (first | (with_reducible first | exact HB.out | apply zda | apply zba | apply zca | refine zea ?_ GE274.out) | exact HB.out)) hb); (try clear hb); (try clear hb2); (try clear hk); (try clear hi)))
             go_ret
             exact ⟨by first | rfl | (simp [zwa, zva] <;> rfl) | (simp [*, zwa, zva] <;> rfl), by repeat (first | (with_reducible first | exact HB.out | apply zda | apply zba | apply zca | refine zea ?_ GE274.out) | exact HB.out)⟩
end Go.Proofs.YtoacbkoenkiahaaGreat.PTopGluePlate
end
section
namespace Go.Proofs.YtoacbkoenkiahaaGreat.PTopGluePlate
open Go.RowKit Go.Proofs.YtoacbkoenkiahaaGreatW.PrintWords Go.Proofs.YtoacbkoenkiahaaGreatW.PrintLast Go.Proofs.YtoacbkoenkiahaaGreatW.PrintMore
attribute [local go_sem] znb zlb zhc zgc zeb zdb zmb zkb
set_option linter.unusedVariables false
set_option linter.unusedSimpArgs false
def Pred_sl_api_GlueCause_71 (P : Program) (g : Nat) (lb : Array Value) (l : List (List (S32))) (p : List (S32) → Option Bool) (w : World) : Prop :=
 ∀ (W : World) (x : List (S32)) (A : Option Addr) (c : Nat), x ∈ l → Kd.C k32 W A x.length x → x.length ≤ c → Below w.heap.size w W → ∀ b, p x = some b → Calls P g (#[.slice A x.length c] ++ lb) W fun e w' => e = .returned (.bool b) ∧ Below W.heap.size W w'
theorem at_nat_sl_api_GlueCause {w : World} {A : Option Addr} {xs : List (List (S32))} (h : Kd.C (Kd.slice 32 k32) w A xs.length xs) (k : Nat) (hk : k < xs.length) :
 ∃ ad A0 c0, A = some ad ∧ w.cell? (ad.add k) = some (.slice A0 xs[k].length c0) ∧ xs[k].length ≤ c0 ∧ Kd.C k32 w A0 xs[k].length xs[k] := by
 obtain ⟨ad, c, e0, hc, hK, hcell⟩ := Kd.C_get h [] (k : Int) (by omega) (by omega)
 obtain ⟨A0, c0, rfl, hl, hr⟩ := hK
 have he : xs.getD (k : Int).toNat [] = xs[k] := by simp [List.getD_eq_getElem?_getD, List.getElem?_eq_getElem hk]
 rw [he] at hl hr hcell
 have hc0 := hcell 0 _ rfl
 refine ⟨ad, A0, c0, e0, ?_, hl, hr⟩
 have hz : ((Kd.slice 32 k32)).sz = 1 := rfl
 rw [hz] at hc0
 simpa using hc0
set_option maxHeartbeats 2000000 in
set_option maxRecDepth 100000 in
theorem slices_IndexFunc_sl_api_GlueCause.calls (g : Nat) (lb : Array Value) (p : List (S32) → Option Bool) (A0 : Option Addr) (c0 : Nat) (l0 : List (List (S32))) (r : Int) (w : World) (hr0 : Kd.C (Kd.slice 32 k32) w A0 l0.length l0) (hc0 : l0.length ≤ c0)
    (eg : ∀ args w, (callFunc g args).run Tryz.prog w = .ok (.enter g args) w) (hp : Pred_sl_api_GlueCause_71 Tryz.prog g lb l0 p w) (h : idxO p l0 0 = some r) :
    Calls Tryz.prog 71 #[.slice A0 l0.length c0, .func (.func g) #[] lb] w fun e w' => e = .returned (.int .i64 r) ∧ Below w.heap.size w w' := by
  have HR0 := zaa.mk hr0
  have HB := zaa.mk (Below.refl w.heap.size w)
  have HP := zaa.mk hp
  have HH := zaa.mk h
  have hlen : l0.length ≤ 9223372036854775807 := hr0.2.1
  clear hr0 hc0 hp h
  go_enter Tryz.func71, Tryz.ntmps71
  go_wp2
  go_loopw [8] (fun v8 wr => ∃ kk : Nat, kk ≤ l0.length ∧ v8 = .int .i64 kk ∧ zaa (idxO p (l0.drop kk) kk = some r) ∧ zaa (Below w.heap.size w wr)) (fun v8 _ => l0.length - (intOf v8).toNat)
  case atStart => exact ⟨0, Nat.zero_le _, rfl, ⟨by simpa using HH.out⟩, HB⟩
  case round =>
    obtain ⟨kk, hkk, rfl, HI, HW⟩ := hrel
    by_cases hlt : kk < l0.length
    · have hlz : (kk : Int) < (l0.length : Int) := by omega
      obtain ⟨ad, A1, c1, e0, hx, hc1, hr1⟩ := at_nat_sl_api_GlueCause (Kd.zkc HR0.out HW.out) kk hlt
      cases e0
      have hcall := HP.out wr l0[kk] A1 c1 (List.getElem_mem hlt) hr1 hc1 HW.out
      clear hr1 hc1
      have hd := HI.out
      rw [idxO_drop p l0 kk hlt] at hd
      have HD := zaa.mk hd
      clear hd HI
      generalize l0[kk] = y at hx hcall HD
      have HC := zaa.mk hcall
      clear hcall
      cases hq : p y with
      | none => exact absurd HD.out (by rw [hq]; simp)
      | some b =>
        have HC2 := zaa.mk (HC.out b hq)
        clear HC
        cases b with
        | true =>
          go_wp2_with (go_at_fn g; refine HC2.out.mono ?_; rintro e w' ⟨rfl, hb'⟩; have HB' := zaa.mk hb'; clear hb')
          go_ret
          refine ⟨?_, zma HW.out HB'.out⟩
          have h1 := HD.out
          rw [hq] at h1
          have h2 : (kk : Int) = r := by simpa using h1
          rw [← h2]; rfl
        | false =>
          have HI : zaa (idxO p (l0.drop (kk + 1)) (kk + 1) = some r) := ⟨by have h1 := HD.out; rw [hq] at h1; simpa using h1⟩
          go_wp2_with (go_at_fn g; refine HC2.out.mono ?_; rintro e w' ⟨rfl, hb'⟩; have HB' := zaa.mk hb'; clear hb')
          go_roundw
          case rel => exact ⟨kk + 1, by omega, by go_num, HI, ⟨zma HW.out HB'.out⟩⟩
          case measure => simp [intOf]; omega
    · obtain rfl : kk = l0.length := by omega
      go_wp2
      go_ret
      have h1 := HI.out
      rw [List.drop_length] at h1
      exact ⟨by have h2 : (-1 : Int) = r := (by simpa [idxO] using h1); rw [← h2]; rfl, HW.out⟩
end Go.Proofs.YtoacbkoenkiahaaGreat.PTopGluePlate
end
section
namespace Go.Proofs.YtoacbkoenkiahaaGreat.PTopGluePlate
open Go.RowKit Go.Proofs.YtoacbkoenkiahaaGreatW.PrintWords Go.Proofs.YtoacbkoenkiahaaGreatW.PrintLast Go.Proofs.YtoacbkoenkiahaaGreatW.PrintMore
attribute [local go_sem] znb zlb zhc zgc zeb zdb zmb zkb
set_option linter.unusedVariables false
set_option linter.unusedSimpArgs false
set_option maxHeartbeats 4000000 in
set_option maxRecDepth 100000 in
theorem slices_DeleteFunc_sl_api_GlueCause.calls (g : Nat) (lb : Array Value) (p : List (S32) → Option Bool) (ok : Nat → Prop) (A0 : Option Addr) (c0 : Nat) (l0 : List (List (S32))) (r : List (List (S32))) (wb w : World) (hs0 : Kd.S (Kd.slice 32 k32) 33 w wb.heap.size ok (.slice A0 l0.length c0) l0) (hb : Below wb.heap.size wb w)
    (eg : ∀ args w, (callFunc g args).run Tryz.prog w = .ok (.enter g args) w) (hp : Pred_sl_api_GlueCause_71 Tryz.prog g lb l0 p wb) (h : filterO p l0 = some r) :
    Calls Tryz.prog 48 #[.slice A0 l0.length c0, .func (.func g) #[] lb] w fun e w' => ∃ v : Value, e = .returned v ∧ Kd.V (Kd.slice 32 k32) 33 w' wb.heap.size (fun k_ => wb.heap.size ≤ k_) v r ∧ Below wb.heap.size wb w' := by
  have HS0 : zaa (Kd.N (Kd.slice 32 k32) 33 w wb.heap.size (fun k => ok k ∧ wb.heap.size ≤ k) (.slice A0 l0.length c0) l0) := ⟨Kd.N_mono (Kd.S_N (Kd.S_bound hs0)) (fun k hk => ⟨hk.1, hk.2.1⟩)⟩
  have HR := zaa.mk (Kd.S_reads' hs0)
  have HB := zaa.mk hb
  have HP := zaa.mk hp
  have HPw : zaa (Pred_sl_api_GlueCause_71 Tryz.prog g lb l0 p w) := ⟨fun W x A c h1 h2 h3 h4 => hp W x A c h1 h2 h3 (zma hb h4)⟩
  have hlen : l0.length ≤ 9223372036854775807 := HR.out.2.2.2.1
  have hz := fun w : World => (show (zeroValue 33).run Tryz.prog w = .ok (.slice none 0 0) w by kernel_rfl)
  rcases filterO_idx p l0 r h 0 with ⟨hi, rfl⟩ | ⟨i, rest, hil, hi, hrest, hr⟩
  · have HI := zaa.mk (slices_IndexFunc_sl_api_GlueCause.calls g lb p A0 c0 r (-1) w HR.out.2.2 HR.out.2.1 eg HPw.out hi)
    clear hs0 hb hp h hi eg
    go_enter Tryz.func48, Tryz.ntmps48
    go_wp2_with (go_at_call 71; refine HI.out.mono ?_; rintro e w' ⟨rfl, hb'⟩; have HB' := zaa.mk hb'; clear hb')
    go_ret
    exact ⟨_, rfl, Kd.zcc (Kd.N_V (Kd.N_below HS0.out HB'.out)) (fun k hk => hk.2), zma HB.out HB'.out⟩
  · rw [Nat.zero_add] at hi
    have HI := zaa.mk (slices_IndexFunc_sl_api_GlueCause.calls g lb p A0 c0 l0 i w HR.out.2.2 HR.out.2.1 eg HPw.out hi)
    have HREST := zaa.mk hrest
    have HRR := zaa.mk hr
    cases A0 with
    | none =>
      have hc := HR.out.2.2
      obtain ⟨ad, e0, _⟩ := hc.2.2 (by omega)
      cases e0
    | some ad =>
    obtain ⟨G, hG⟩ := Kd.R_head (Kd.S_R hs0)
    have HG := zaa.mk hG
    have hiw : IntKind.i64.wrap ((i : Int) + 1) = (i : Int) + 1 := IntWalk.i64_in _ ⟨by omega, by omega⟩
    have hne : ((i : Int) = -1) = False := eq_false (by omega)
    clear hs0 hb hp h hi hrest hr hG
    go_enter Tryz.func48, Tryz.ntmps48
    go_wp2_with (go_at_call 71; refine HI.out.mono ?_; rintro e w1 ⟨rfl, hb'⟩; have HB1 := zaa.mk hb'; clear hb')
    clear HI
    have HN1 : zaa (Kd.N (Kd.slice 32 k32) 33 w1 wb.heap.size (fun k => ok k ∧ wb.heap.size ≤ k) (.slice (some ⟨G, 0, none⟩) l0.length c0) l0) := ⟨by have h_ := Kd.N_below HS0.out HB1.out; rw [HG.out] at h_; exact h_⟩
    obtain ⟨cs, _, hn1, hn2, hn3, hel, hm0⟩ := Mid.start HN1.out rfl (by omega) i (i + 1) (by omega)
    have HEL := zaa.mk hel
    have HM0 := zaa.mk hm0
    have HLC : zaa (l0.length ≤ c0) := ⟨hn1⟩
    clear hel hm0
    have hgw : wb.heap.size ≤ G := (Kd.N_base HN1.out G (by simp [Value.ownBlock]))
    have HAD : zaa (∀ q : Nat, ad.add q = ⟨G, q, none⟩) := ⟨fun q => by rw [HG.out]; simp only [Addr.add, Nat.zero_add]; split <;> first | rfl | (rename_i h0; rw [h0])⟩
    go_loopw [5, 6] (fun v5 v6 wr => ∃ (ii jj : Nat) (kept tl : List (List (S32))), v5 = .int .i64 ii ∧ v6 = .int .i64 jj ∧ kept.length = ii ∧ ii < jj ∧ jj ≤ l0.length ∧ zaa (filterO p (l0.drop jj) = some tl) ∧ zaa (r = kept ++ tl) ∧ zaa (Mid (Kd.slice 32 k32) 33 G (fun k => (ok k ∧ wb.heap.size ≤ k) ∧ k ≠ G) l0.length cs w1 wr jj kept) ∧ zaa (Below wb.heap.size wb wr)) (fun _ v6 _ => l0.length - (intOf v6).toNat)
    case atStart => exact ⟨i, i + 1, l0.take i, rest, rfl, by simp, by simp; omega, by omega, by omega, HREST, HRR, HM0, ⟨zma HB.out HB1.out⟩⟩
    case round =>
      obtain ⟨ii, jj, kept, tl, rfl, rfl, hkl, hij, hjn, HT, HK, HM, HW⟩ := hrel
      by_cases hlt : jj < l0.length
      · have hlz : (jj : Int) < (l0.length : Int) := by omega
        obtain ⟨c, hcj, hF⟩ := HEL.out jj l0[jj] (by simp)
        obtain ⟨A1, c1, e1, hc1, hr1⟩ := hF wr (fun k hk hl => HM.out.others k hk.2 hl)
        injection e1 with e1
        subst e1
        have HF := zaa.mk hF
        have hx := HM.out.cell hn2 hlt hcj
        rw [← HAD.out jj] at hx
        have hcall := HP.out wr l0[jj] A1 c1 (List.getElem_mem hlt) hr1 hc1 HW.out
        clear hr1 hc1 hF hcj
        have hd := HT.out
        rw [filterO_drop p l0 jj hlt] at hd
        have HD := zaa.mk hd
        clear hd HT
        generalize l0[jj] = y at hx hcall HD HF
        have HC := zaa.mk hcall
        clear hcall
        cases hq : p y with
        | none => exact absurd HD.out (by rw [hq]; simp)
        | some b =>
          have HC2 := zaa.mk (HC.out b hq)
          clear HC
          have HD2 : zaa ((filterO p (l0.drop (jj + 1))).bind (fun t => some (if b = true then t else y :: t)) = some tl) := ⟨by have h1 := HD.out; rw [hq] at h1; exact h1⟩
          clear HD
          cases hq2 : filterO p (l0.drop (jj + 1)) with
          | none => exact absurd HD2.out (by rw [hq2]; simp)
          | some t2 =>
          have HT2 := zaa.mk hq2
          have htl : zaa ((if b = true then t2 else y :: t2) = tl) := ⟨by have h1 := HD2.out; rw [hq2] at h1; simpa using h1⟩
          clear hq2 HD2
          have hjw : IntKind.i64.wrap ((jj : Int) + 1) = (jj : Int) + 1 := IntWalk.i64_in _ ⟨by omega, by omega⟩
          have hiw : IntKind.i64.wrap ((ii : Int) + 1) = (ii : Int) + 1 := IntWalk.i64_in _ ⟨by omega, by omega⟩
          have hiz : (ii : Int) < (l0.length : Int) := by omega
          cases b with
          | true =>
            go_wp2_with (go_at_fn g; refine HC2.out.mono ?_; rintro e w' ⟨rfl, hb'⟩; have HB' := zaa.mk hb'; clear hb')
            go_roundw
            case rel => (repeat apply Exists.intro); exact ⟨⟨ii, jj + 1, kept, tl, rfl, by go_num, hkl, by omega, by omega, ⟨by rw [HT2.out, ← htl.out]; rfl⟩, HK, ⟨(HM.out.after HB'.out).skip⟩, ⟨zma HW.out HB'.out⟩⟩, rfl⟩
            case measure => simp [intOf]; omega
          | false =>
            go_wp2_with (go_at_fn g; refine HC2.out.mono ?_; rintro e w' ⟨rfl, hb'⟩; have HB' := zaa.mk hb'; obtain ⟨u0, hu0⟩ : ∃ u0, w'.cell? (ad.add ii) = some u0 := Option.isSome_iff_exists.1 (by rw [HAD.out]; exact (HM.out.after hb').there (by omega)); have hfr : w'.frozen? (ad.add ii) = false := (by rw [HAD.out]; exact (HM.out.after hb').free ii); clear hb')
            go_roundw
            case rel => (repeat apply Exists.intro); exact ⟨⟨ii + 1, jj + 1, kept ++ [y], t2, by go_num, by go_num, by simp [hkl], by omega, by omega, HT2, ⟨by rw [HK.out, ← htl.out]; simp⟩, ⟨by subst hkl; rw [HAD.out]; exact (HM.out.after HB'.out).put hij hlt hn2 HF.out⟩, ⟨by rw [HAD.out]; exact (zma HW.out HB'.out).setCell hgw _⟩⟩, rfl⟩
            case measure => simp [intOf]; omega
      · obtain rfl : jj = l0.length := by omega
        have hiz : (ii : Int) < (l0.length : Int) := by omega
        have hclr : (Builtin.clear_ #[87] 0 #[.slice (some (ad.add ii)) (l0.length - ii) (c0 - ii)]).run Tryz.prog wr = .ok (.tuple #[]) (wr.setCells G ii (List.replicate (l0.length - ii) (.slice none 0 0))) := by
          rw [HAD.out]
          exact Lib.run_clear_slice wr 87 33 0 (.slice none 0 0) Tryz.underlying87 hz rfl rfl G ii _ _ (by omega) (fun j hj => (HM.out.there (by omega))) (fun j _ => HM.out.free _)
        have HM2 := HM.out.cleared (List.replicate (l0.length - ii) (.slice none 0 0))
        have HW2 := Go.below_setCells hgw (List.replicate (l0.length - ii) (.slice none 0 0)) ii _ HW.out
        rw [hkl] at HM2
        generalize wr.setCells G ii (List.replicate (l0.length - ii) (.slice none 0 0)) = W2 at hclr HM2 HW2
        have HA2 := zaa.mk HM2
        have HB2 := zaa.mk HW2
        clear HM2 HW2
        have hrk : zaa (r = kept) := ⟨by have h1 := HT.out; rw [List.drop_length] at h1; have h2 : ([] : List (List (S32))) = tl := (by simpa [filterO] using h1); rw [HK.out, ← h2, List.append_nil]⟩
        go_wp2
        go_ret
        refine ⟨_, rfl, ?_, HB2.out⟩
        rw [hrk.out, HG.out, ← hkl]
        exact HA2.out.reads rfl (by omega) hn3 (by omega) (fun k hk _ => ⟨hk.2, hk.1.2⟩) hgw
end Go.Proofs.YtoacbkoenkiahaaGreat.PTopGluePlate
end
section
namespace Go.Proofs.YtoacbkoenkiahaaGreat.PTopGluePlate
open Go.RowKit Go.Proofs.YtoacbkoenkiahaaGreatW.PrintWords Go.Proofs.YtoacbkoenkiahaaGreatW.PrintLast Go.Proofs.YtoacbkoenkiahaaGreatW.PrintMore
attribute [local go_sem] znb zlb zhc zgc zeb zdb zmb zkb
set_option linter.unusedVariables false
set_option linter.unusedSimpArgs false
mutual
def zic.l0 : Nat → List Int → List (S32) → Int → Int → Option ((List (S32)))
 | 0, _, _, _, _ => none
 | k + 1, x1, x4, x12, x13 => if x13 < x12 then (zic.l1 k x1 x4 x13 1 x12 x13) else (some x4)
def zic.l1 : Nat → List Int → List (S32) → Int → Int → Int → Int → Option ((List (S32)))
 | 0, _, _, _, _, _, _ => none
 | k + 1, x1, x4, x5, x6, x12, x13 => if x6 ≤ 4 then (zic.l2 k x1 x4 x5 x6 x12 x13 x1 (x1.length : Int) 0) else (zic.l0 k x1 x4 x12 (wrap64 (x13 + 1)))
def zic.l2 : Nat → List Int → List (S32) → Int → Int → Int → Int → List Int → Int → Int → Option ((List (S32)))
 | 0, _, _, _, _, _, _, _, _, _ => none
 | k + 1, x1, x4, x5, x6, x12, x13, x20, x21, x22 => if x22 < x21 then (if 0 ≤ x22 then (if x22 < (x20.length : Int) then (if x4.length < 5864062014805 then (zic.l2 k x1 (x4 ++ [(⟨x5, x6, rd x20 x22⟩ : S32)]) x5 x6 x12 x13 x20 x21 (wrap64 (x22 + 1))) else (none)) else (none)) else (none)) else (zic.l1 k x1 x4 x5 (wrap64 (x6 + 1)) x12 x13)
end
def zic.f (k : Nat) (a0_0 : Int) (l0_1 : List Int) (l1 : List Int) : Option ((List (S32))) := zic.l0 k l1 ([] : List (S32)) (l0_1.length : Int) 0
set_option maxHeartbeats 8000000 in
set_option maxRecDepth 100000 in
theorem zic.calls (k : Nat) (a0_0 : Int) (A0_1 : Option Addr) (c0_1 : Nat) (l0_1 : List Int) (A1 : Option Addr) (c1 : Nat) (l1 : List Int) (r : List (S32)) (w : World) (hr0_1 : Kd.C (Kd.int .i64) w A0_1 l0_1.length l0_1) (hc0_1 : l0_1.length ≤ c0_1) (hr1 : Kd.C (Kd.int .i64) w A1 l1.length l1) (hc1 : l1.length ≤ c1) (h : zic.f k a0_0 l0_1 l1 = some r) :
 Calls Tryz.prog 72 #[.agg #[.int .i64 a0_0, .slice A0_1 l0_1.length c0_1], .slice A1 l1.length c1] w fun e w' => ∃ v0_ : Value, e = .returned (v0_) ∧ Kd.V k32 32 w' w.heap.size (fun k_ => (w.heap.size ≤ k_)) v0_ r ∧ Below w.heap.size w w' := by
 have hu66 := Tryz.underlying66
 have hu32 := Tryz.underlying32
 have HR0_1 := zaa.mk hr0_1
 have HC0_1 := zaa.mk hc0_1
 clear hr0_1 hc0_1
 have HR1 := zaa.mk hr1
 have HC1 := zaa.mk hc1
 clear hr1 hc1
 have HB := zaa.mk (Below.refl w.heap.size w)
 have H : (zic.l0 k l1 ([] : List (S32)) (l0_1.length : Int) 0) = some r := h
 clear h
 have H' := zaa.mk H
 clear H
 go_enter Tryz.func72, Tryz.ntmps72
 go_wp2_with (first | ((with_reducible refine zbb (N := 2) rfl ?_); refine zob ?hg (N := 2) ?hd (cs := #[.int .i64 a0_0, .slice A0_1 l0_1.length c0_1]) (t := 66) ?hr ?_; (case hd => rfl); (case hg => rfl); (case hr => first | (go_simp; done) | (go_simp; rfl)); intro gb284 hg w3 hbox hb; have BK284 := zaa.mk (hbox); have GW284 := zaa.mk ((by rw [hg]; exact (zja (by repeat (first | (with_reducible first | exact HB.out | apply zda | apply zba | apply zca) | exact HB.out))) : w.heap.size ≤ gb284)); have GE284 := zaa.mk ((by rw [hg]; exact (zja (by repeat (first | (with_reducible first | exact HB.out | apply zda | apply zba | apply zca) | exact HB.out))) : w.heap.size ≤ gb284)); replace HB := zaa.mk (zma (by repeat (first | (with_reducible first | exact HB.out | apply zda | apply zba | apply zca) | exact HB.out)) hb); clear hb hbox hg; have hcz4_0 : w3.cell? ⟨gb284, 0, none⟩ = some (.int .i64 a0_0) := (zla BK284.out 0).trans rfl; have hcz4_1 : w3.cell? ⟨gb284, 1, none⟩ = some (.slice A0_1 l0_1.length c0_1) := (zla BK284.out 1).trans rfl; have hfz4_0 := zka BK284.out 0; have hfz4_1 := zka BK284.out 1))
 go_loopg [4, 13] k (fun kq v4 v13 w' => ∃ (x4_1 : List (S32)) (x13_1 : Int), v13 = .int .i64 x13_1 ∧ zaa (zic.l0 kq l1 x4_1 (l0_1.length : Int) x13_1 = some r) ∧ zaa (kq ≤ k) ∧ zaa (Kd.R k32 32 w' w.heap.size (fun k_ => (w.heap.size ≤ k_)) v4 x4_1) ∧ zaa (w'.heap[gb284]? = some (.cells #[.int .i64 a0_0, (.slice A0_1 l0_1.length c0_1)] 66 (0, 0))) ∧ zaa (Below w.heap.size w w'))
 case atStart => exact ⟨(([] : List (S32))), (0), (by first | rfl | (simp; done) | (simp [*]; done)), H', ⟨Nat.le_refl _⟩, ⟨by first | exact Kd.R_nil _ _ _ _ _ | exact Kd.N_nil _ _ _ _ _ | exact Kd.V_nil _ _ _ _ _ | exact Kd.Q_nil _ _ _ _ _ | exact Kd.S_nil _ _ _ _ _⟩, ⟨by (with_reducible repeat (first | refine zga ?_ _ | refine zha ?_ | refine zfa ?_ _)); exact BK284.out⟩, ⟨by repeat (first | (with_reducible first | exact HB.out | apply zda | apply zba | apply zca | refine zea ?_ GE284.out) | exact HB.out)⟩⟩
 case round =>
  clear H'
  try clear c1
  try clear p2
  try clear hcz4_0
  try clear hcz4_1
  try clear hfz4_0
  try clear hfz4_1
  obtain ⟨x4_1, x13_1, rfl, HA, HK1, HO_4, BK284, HB⟩ := hrel
  cases gk with
  | zero => exact absurd HA.out (by simp [zic.l0])
  | succ k1 =>
   have H := HA.out
   clear HA
   simp only [zic.l0] at H
   by_cases c5 : x13_1 < (l0_1.length : Int)
   · rw [if_pos c5] at H
     have c5b0 : decide (x13_1 < (l0_1.length : Int)) = true := decide_eq_true c5
     clear c5
     have H' := zaa.mk H
     clear H
     go_wp2
     go_loopg [4, 6] k1 (fun kq v4 v6 w' => ∃ (x4_2 : List (S32)) (x6_2 : Int), v6 = .int .i64 x6_2 ∧ zaa (zic.l1 kq l1 x4_2 x13_1 x6_2 (l0_1.length : Int) x13_1 = some r) ∧ zaa (kq ≤ k1) ∧ zaa (Kd.R k32 32 w' w.heap.size (fun k_ => (w.heap.size ≤ k_)) v4 x4_2) ∧ zaa (w'.heap[gb284]? = some (.cells #[.int .i64 a0_0, (.slice A0_1 l0_1.length c0_1)] 66 (0, 0))) ∧ zaa (Below w.heap.size w w'))
     case atStart => exact ⟨(x4_1), (1), (by first | rfl | (simp; done) | (simp [*]; done)), H', ⟨Nat.le_refl _⟩, ⟨by (with_reducible repeat (first | apply Kd.zqa | apply Kd.zpa | apply Kd.zsa)); exact HO_4.out⟩, ⟨by (with_reducible repeat (first | refine zga ?_ _ | refine zha ?_ | refine zfa ?_ _)); exact BK284.out⟩, ⟨by repeat (first | (with_reducible first | exact HB.out | apply zda | apply zba | apply zca | refine zea ?_ GE284.out) | exact HB.out)⟩⟩
     case round =>
      clear H'
      try clear c1
      try clear p2
      try clear c5
      try clear c5b0
      try clear hcz4_0
      try clear hcz4_1
      try clear hfz4_0
      try clear hfz4_1
      try clear p2
      obtain ⟨x4_2, x6_2, rfl, HA, HK2, HO_4, BK284, HB⟩ := hrel
      cases gk with
      | zero => exact absurd HA.out (by simp [zic.l1])
      | succ k2 =>
       have H := HA.out
       clear HA
       simp only [zic.l1] at H
       by_cases c6 : x6_2 ≤ 4
       · rw [if_pos c6] at H
         have c6b0 : decide (x6_2 ≤ 4) = true := decide_eq_true c6
         clear c6
         have H' := zaa.mk H
         clear H
         go_wp2
         go_loopg [4, 22] k2 (fun kq v4 v22 w' => ∃ (x4_3 : List (S32)) (x22_3 : Int), v22 = .int .i64 x22_3 ∧ zaa (zic.l2 kq l1 x4_3 x13_1 x6_2 (l0_1.length : Int) x13_1 l1 (l1.length : Int) x22_3 = some r) ∧ zaa (kq ≤ k2) ∧ zaa (Kd.R k32 32 w' w.heap.size (fun k_ => (w.heap.size ≤ k_)) v4 x4_3) ∧ zaa (w'.heap[gb284]? = some (.cells #[.int .i64 a0_0, (.slice A0_1 l0_1.length c0_1)] 66 (0, 0))) ∧ zaa (Below w.heap.size w w'))
         case atStart => exact ⟨(x4_2), (0), (by first | rfl | (simp; done) | (simp [*]; done)), H', ⟨Nat.le_refl _⟩, ⟨by (with_reducible repeat (first | apply Kd.zqa | apply Kd.zpa | apply Kd.zsa)); exact HO_4.out⟩, ⟨by (with_reducible repeat (first | refine zga ?_ _ | refine zha ?_ | refine zfa ?_ _)); exact BK284.out⟩, ⟨by repeat (first | (with_reducible first | exact HB.out | apply zda | apply zba | apply zca | refine zea ?_ GE284.out) | exact HB.out)⟩⟩
         case round =>
          clear H'
          try clear c1
          try clear p2
          try clear c5
          try clear c5b0
          try clear c6
          try clear c6b0
          try clear hcz4_0
          try clear hcz4_1
          try clear hfz4_0
          try clear hfz4_1
          try clear p2
          obtain ⟨x4_3, x22_3, rfl, HA, HK3, HO_4, BK284, HB⟩ := hrel
          cases gk with
          | zero => exact absurd HA.out (by simp [zic.l2])
          | succ k3 =>
           have H := HA.out
           clear HA
           simp only [zic.l2] at H
           by_cases c7 : x22_3 < (l1.length : Int)
           · rw [if_pos c7] at H
             have c7b0 : decide (x22_3 < (l1.length : Int)) = true := decide_eq_true c7
             clear c7
             by_cases c8 : 0 ≤ x22_3
             · rw [if_pos c8] at H
               have c8b0 : decide (0 ≤ x22_3) = true := decide_eq_true c8
               clear c8
               by_cases c9 : x22_3 < (l1.length : Int)
               · rw [if_pos c9] at H
                 have c9b0 : decide (x22_3 < (l1.length : Int)) = true := decide_eq_true c9
                 clear c9
                 by_cases c10 : x4_3.length < 5864062014805
                 · rw [if_pos c10] at H
                   have LMc10 := zaa.mk c10
                   clear c10
                   obtain ⟨y286, hy286⟩ : ∃ y_ : List (S32), y_ = (x4_3 ++ [(⟨x13_1, x6_2, rd l1 x22_3⟩ : S32)]) := ⟨_, rfl⟩
                   replace H : (zic.l2 k3 l1 y286 x13_1 x6_2 (l0_1.length : Int) x13_1 l1 (l1.length : Int) (wrap64 (x22_3 + 1))) = some r := by first | (rw [hy286]; with_reducible exact H) | (have H2_ := (Option.bind_some _ _).symm.trans H; rw [hy286]; with_reducible exact H2_) | (have H2_ := (Option.bind_some _ _).symm.trans H; with_reducible exact H2_) | with_reducible exact H | (rw [hy286]; exact H) | exact H
                   have Ny286 := zaa.mk hy286
                   clear hy286
                   have H' := zaa.mk H
                   clear H
                   have p285 : 0 ≤ (x22_3 : Int) := of_decide_eq_true (by first | (with_reducible assumption) | assumption)
                   have q285 : x22_3 < (l1.length : Int) := of_decide_eq_true (by first | (with_reducible assumption) | assumption)
                   obtain ⟨ad285, e285, hx285_0⟩ := Kd.at_int HR1.out x22_3 p285 q285
                   cases e285
                   replace hx285_0 := (HB.out.cell (World.block_lt_of_cell? w _ hx285_0)).trans hx285_0
                   replace p285 := eq_true p285
                   replace q285 := eq_true q285
                   go_wp2_with (first | ((with_reducible refine gate_builtin (b := .append) (xs := #[.tmp 26, .tmp 31]) rfl ?_); at_builtin; refine Kd.R_append k32 (w0 := w) w.heap.size rfl (.tmp 26) (.tmp 31) 33 32 (.agg #[(.int .i64 0), (.int .i64 0), (.int .i64 0)]) 24 rfl Tryz.underlying33 info32 rfl (by decide) (by omega) u4 x4_3 (⟨x13_1, x6_2, rd l1 x22_3⟩ : S32) [.int .i64 x13_1, .int .i64 x6_2, .int .i64 (rd l1 x22_3)] (fun k_ => (w.heap.size ≤ k_)) (fun _ => False) rfl rfl ?aP (fun _ hk => hk.elim) ?aF ?aO ?aB ?aS ?aL ?_; (case aP => exact k32_mkM _ _ _ (⟨x13_1, x6_2, rd l1 x22_3⟩ : S32)); (case aB => exact (by repeat (first | (with_reducible first | exact HB.out | apply zda | apply zba | apply zca | refine zea ?_ GE284.out) | exact HB.out))); (case aF => exact (fun k_ hk => (Nat.le_trans (zja (by repeat (first | (with_reducible first | exact HB.out | apply zda | apply zba | apply zca | refine zea ?_ GE284.out) | exact HB.out))) hk))); (case aO => exact (by (with_reducible repeat (first | apply Kd.zqa | apply Kd.zpa | apply Kd.zsa)); exact HO_4.out)); (case aS => exact (zja (by repeat (first | (with_reducible first | exact HB.out | apply zda | apply zba | apply zca | refine zea ?_ GE284.out) | exact HB.out)))); (case aL => have := LMc10.out; omega); intro v287 w11 ho hb hg hat; rw [← Ny286.out] at ho; replace BK284 := zaa.mk (blk_grown (g := gb284) (o := .cells #[.int .i64 a0_0, .slice A0_1 l0_1.length c0_1] 66 (0, 0)) (by (with_reducible repeat (first | refine zga ?_ _ | refine zha ?_ | refine zfa ?_ _)); exact BK284.out) hg (Kd.R_ne HO_4.out BK284.out (by decide))); replace HB := zaa.mk (hb); have HO288 := zaa.mk (ho); clear HO_4; clear ho hb hg hat))
                   go_roundg k3
                   case measure => have := HK1.out; have := HK2.out; have := HK3.out; omega
                   case rel => exact ⟨(y286), (wrap64 (x22_3 + 1)), (by first | rfl | (simp; done) | (simp [*]; done)), H', ⟨by have := HK1.out; have := HK2.out; have := HK3.out; omega⟩, ⟨by (with_reducible repeat (first | apply Kd.zqa | apply Kd.zpa | apply Kd.zsa)); exact HO288.out⟩, ⟨by (with_reducible repeat (first | refine zga ?_ _ | refine zha ?_ | refine zfa ?_ _)); exact BK284.out⟩, ⟨by repeat (first | (with_reducible first | exact HB.out | apply zda | apply zba | apply zca | refine zea ?_ GE284.out) | exact HB.out)⟩⟩
                 · rw [if_neg c10] at H
                   exact absurd H (by simp)
               · rw [if_neg c9] at H
                 exact absurd H (by simp)
             · rw [if_neg c8] at H
               exact absurd H (by simp)
           · rw [if_neg c7] at H
             have c7b0 : decide (x22_3 < (l1.length : Int)) = false := decide_eq_false c7
             clear c7
             have H' := zaa.mk H
             clear H
             go_wp2
             go_roundg k3
             case measure => have := HK1.out; have := HK2.out; have := HK3.out; omega
             case rel => exact ⟨(x4_3), (wrap64 (x6_2 + 1)), (by first | rfl | (simp; done) | (simp [*]; done)), H', ⟨by have := HK1.out; have := HK2.out; have := HK3.out; omega⟩, ⟨by (with_reducible repeat (first | apply Kd.zqa | apply Kd.zpa | apply Kd.zsa)); exact HO_4.out⟩, ⟨by (with_reducible repeat (first | refine zga ?_ _ | refine zha ?_ | refine zfa ?_ _)); exact BK284.out⟩, ⟨by repeat (first | (with_reducible first | exact HB.out | apply zda | apply zba | apply zca | refine zea ?_ GE284.out) | exact HB.out)⟩⟩
       · rw [if_neg c6] at H
         have c6b0 : decide (x6_2 ≤ 4) = false := decide_eq_false c6
         clear c6
         have H' := zaa.mk H
         clear H
         go_wp2
         go_roundg k2
         case measure => have := HK1.out; have := HK2.out; omega
         case rel => exact ⟨(x4_2), (wrap64 (x13_1 + 1)), (by first | rfl | (simp; done) | (simp [*]; done)), H', ⟨by have := HK1.out; have := HK2.out; omega⟩, ⟨by (with_reducible repeat (first | apply Kd.zqa | apply Kd.zpa | apply Kd.zsa)); exact HO_4.out⟩, ⟨by (with_reducible repeat (first | refine zga ?_ _ | refine zha ?_ | refine zfa ?_ _)); exact BK284.out⟩, ⟨by repeat (first | (with_reducible first | exact HB.out | apply zda | apply zba | apply zca | refine zea ?_ GE284.out) | exact HB.out)⟩⟩
   · rw [if_neg c5] at H
     have c5b0 : decide (x13_1 < (l0_1.length : Int)) = false := decide_eq_false c5
     clear c5
     obtain rfl := Option.some.inj H
     go_wp2
     go_ret
     exact ⟨_, by first | rfl | (simp [zwa, zva] <;> rfl) | (simp [*, zwa, zva] <;> rfl), Kd.R_V (by (with_reducible repeat (first | apply Kd.zqa | apply Kd.zpa | apply Kd.zsa)); exact HO_4.out), by repeat (first | (with_reducible first | exact HB.out | apply zda | apply zba | apply zca | refine zea ?_ GE284.out) | exact HB.out)⟩
end Go.Proofs.YtoacbkoenkiahaaGreat.PTopGluePlate
end
section
namespace Go.Proofs.YtoacbkoenkiahaaGreat.PTopGluePlate
open Go.RowKit Go.Proofs.YtoacbkoenkiahaaGreatW.PrintWords Go.Proofs.YtoacbkoenkiahaaGreatW.PrintLast Go.Proofs.YtoacbkoenkiahaaGreatW.PrintMore
attribute [local go_sem] znb zlb zhc zgc zeb zdb zmb zkb
set_option linter.unusedVariables false
set_option linter.unusedSimpArgs false
mutual
def zhb.l0 : Nat → List (S32) → List (List (S32)) → List (S32) → Int → Int → Option ((List (List (S32))))
 | 0, _, _, _, _, _ => none
 | k + 1, x5, x6, x17, x18, x19 => if x19 < x18 then (if 0 ≤ x19 then (if x19 < (x17.length : Int) then (if x6.length < 5864062014805 then (zhb.l0 k x5 (x6 ++ [(([(⟨(zta x17 x19).f0, (zta x17 x19).f1, (zta x17 x19).f2⟩ : S32)] : List (S32)))]) x17 x18 (wrap64 (x19 + 1))) else (none)) else (none)) else (none)) else (zhb.l1 k x5 x6 x5 (x5.length : Int) 0)
def zhb.l1 : Nat → List (S32) → List (List (S32)) → List (S32) → Int → Int → Option ((List (List (S32))))
 | 0, _, _, _, _, _ => none
 | k + 1, x5, x6, x29, x30, x31 => if x31 < x30 then (if 0 ≤ x31 then (if x31 < (x29.length : Int) then (if 0 ≤ (wrap64 (x31 + 1)) then (if (wrap64 (x31 + 1)) ≤ (x5.length : Int) then ((some (x5.drop ((wrap64 (x31 + 1)) : Int).toNat : List (S32))).bind fun y306 => (zhb.l2 k x5 x6 x29 x30 x31 y306 (y306.length : Int) 0 ((zta x29 x31).f0) ((zta x29 x31).f1) ((zta x29 x31).f2))) else (none)) else (none)) else (none)) else (none)) else (some x6)
def zhb.l2 : Nat → List (S32) → List (List (S32)) → List (S32) → Int → Int → List (S32) → Int → Int → Int → Int → Int → Option ((List (List (S32))))
 | 0, _, _, _, _, _, _, _, _, _, _, _ => none
 | k + 1, x5, x6, x29, x30, x31, x39, x40, x41, x306000, x306001, x306002 => if x41 < x40 then (if 0 ≤ x41 then (if x41 < (x39.length : Int) then (if x306000 < ((zta x39 x41).f0) then (if x6.length < 5864062014805 then (zhb.l2 k x5 (x6 ++ [(([(⟨x306000, x306001, x306002⟩ : S32), (⟨(zta x39 x41).f0, (zta x39 x41).f1, (zta x39 x41).f2⟩ : S32)] : List (S32)))]) x29 x30 x31 x39 x40 (wrap64 (x41 + 1)) x306000 x306001 x306002) else (none)) else (zhb.l2 k x5 x6 x29 x30 x31 x39 x40 (wrap64 (x41 + 1)) x306000 x306001 x306002)) else (none)) else (none)) else (zhb.l1 k x5 x6 x29 x30 (wrap64 (x31 + 1)))
end
def zhb.f (k : Nat) (a0_0 : Int) (l0_1 : List Int) (l1 : List Int) : Option ((List (List (S32)))) := (zic.f k a0_0 l0_1 l1).bind fun t290 => (zhb.l0 k t290 (([[]] : List (List (S32)))) t290 (t290.length : Int) 0)
set_option maxHeartbeats 8000000 in
set_option maxRecDepth 100000 in
theorem zhb.calls (k : Nat) (a0_0 : Int) (A0_1 : Option Addr) (c0_1 : Nat) (l0_1 : List Int) (A1 : Option Addr) (c1 : Nat) (l1 : List Int) (r : List (List (S32))) (w : World) (hr0_1 : Kd.C (Kd.int .i64) w A0_1 l0_1.length l0_1) (hc0_1 : l0_1.length ≤ c0_1) (hr1 : Kd.C (Kd.int .i64) w A1 l1.length l1) (hc1 : l1.length ≤ c1) (h : zhb.f k a0_0 l0_1 l1 = some r) :
 Calls Tryz.prog 49 #[.agg #[.int .i64 a0_0, .slice A0_1 l0_1.length c0_1], .slice A1 l1.length c1] w fun e w' => ∃ v0_ : Value, e = .returned (v0_) ∧ Kd.S (Kd.slice 32 k32) 33 w' w.heap.size (fun _ => True) v0_ r ∧ Below w.heap.size w w' := by
 have hu66 := Tryz.underlying66
 have hu32 := Tryz.underlying32
 have HR0_1 := zaa.mk hr0_1
 have HC0_1 := zaa.mk hc0_1
 clear hr0_1 hc0_1
 have HR1 := zaa.mk hr1
 have HC1 := zaa.mk hc1
 clear hr1 hc1
 have HB := zaa.mk (Below.refl w.heap.size w)
 have H : ((zic.f k a0_0 l0_1 l1).bind fun t290 => (zhb.l0 k t290 (([[]] : List (List (S32)))) t290 (t290.length : Int) 0)) = some r := h
 clear h
 replace H := Option.bind_eq_some_iff.mp H
 obtain ⟨t290, A30, H⟩ := H
 replace H : (zhb.l0 k t290 (([[]] : List (List (S32)))) t290 (t290.length : Int) 0) = some r := H
 have A3 := zaa.mk A30
 clear A30
 obtain ⟨y293, hy293⟩ : ∃ y_ : List (List (S32)), y_ = (([[]] : List (List (S32)))) := ⟨_, rfl⟩
 replace H : (zhb.l0 k t290 y293 t290 (t290.length : Int) 0) = some r := by first | (rw [hy293]; with_reducible exact H) | (have H2_ := (Option.bind_some _ _).symm.trans H; rw [hy293]; with_reducible exact H2_) | (have H2_ := (Option.bind_some _ _).symm.trans H; with_reducible exact H2_) | with_reducible exact H | (rw [hy293]; exact H) | exact H
 have Ny293 := zaa.mk hy293
 clear hy293
 have H' := zaa.mk H
 clear H
 go_enter Tryz.func49, Tryz.ntmps49
 go_wp2_with (first | ((with_reducible refine zbb (N := 2) rfl ?_); refine zob ?hg (N := 2) ?hd (cs := #[.int .i64 a0_0, .slice A0_1 l0_1.length c0_1]) (t := 66) ?hr ?_; (case hd => rfl); (case hg => rfl); (case hr => first | (go_simp; done) | (go_simp; rfl)); intro gb289 hg w4 hbox hb; have BK289 := zaa.mk (hbox); have GW289 := zaa.mk ((by rw [hg]; exact (zja (by repeat (first | (with_reducible first | exact HB.out | apply zda | apply zba | apply zca) | exact HB.out))) : w.heap.size ≤ gb289)); have GE289 := zaa.mk ((by rw [hg]; exact (zja (by repeat (first | (with_reducible first | exact HB.out | apply zda | apply zba | apply zca) | exact HB.out))) : w.heap.size ≤ gb289)); replace HB := zaa.mk (zma (by repeat (first | (with_reducible first | exact HB.out | apply zda | apply zba | apply zca) | exact HB.out)) hb); clear hb hbox hg; have hcz5_0 : w4.cell? ⟨gb289, 0, none⟩ = some (.int .i64 a0_0) := (zla BK289.out 0).trans rfl; have hcz5_1 : w4.cell? ⟨gb289, 1, none⟩ = some (.slice A0_1 l0_1.length c0_1) := (zla BK289.out 1).trans rfl; have hfz5_0 := zka BK289.out 0; have hfz5_1 := zka BK289.out 1) | ((with_reducible refine zxa (f := 72) rfl ?_); refine zhd (some 15) rfl rfl Tryz.func72 (by kernel_rfl) rfl #[.agg #[.int .i64 a0_0, .slice A0_1 l0_1.length c0_1], .slice A1 l1.length c1] rfl (by (try simp only [List.map_toArray, List.map_cons, List.map_nil]); first | done | rfl | (simp only [List.length_drop, List.length_take]; rfl)) ?_; (with_reducible refine (zic.calls k a0_0 _ _ l0_1 _ _ l1 t290 _ ?side1 ?side2 ?side3 ?side4 A3.out).mono ?_); (case side1 => repeat (first | exact (Kd.zkc HR0_1.out HB.out) | (with_reducible refine Kd.zrb ?_ _) | (with_reducible refine Kd.zqb ?_ _) | (with_reducible refine Kd.zmc ?_))); (case side2 => exact HC0_1.out); (case side3 => repeat (first | exact (Kd.zkc HR1.out HB.out) | (with_reducible refine Kd.zrb ?_ _) | (with_reducible refine Kd.zqb ?_ _) | (with_reducible refine Kd.zmc ?_))); (case side4 => exact HC1.out); rintro e w6 ⟨v291, rfl, ho0, hb⟩; refine ⟨_, rfl, ?_⟩; have HO292 := zaa.mk (Kd.V_lower (Kd.zcc (ok' := fun k_ => k_ ≠ gb289) ho0 (fun k_ hk_ => (Kd.freshB (g := gb289) (o := .cells #[.int .i64 a0_0, .slice A0_1 l0_1.length c0_1] 66 (0, 0)) (by (with_reducible repeat (first | refine zga ?_ _ | refine zha ?_ | refine zfa ?_ _)); exact BK289.out) k_ hk_))) (zja (by repeat (first | (with_reducible first | exact HB.out | apply zda | apply zba | apply zca | refine zea ?_ GE289.out) | exact HB.out)))); replace BK289 := zaa.mk (zna (g := gb289) (o := .cells #[.int .i64 a0_0, .slice A0_1 l0_1.length c0_1] 66 (0, 0)) (by (with_reducible repeat (first | refine zga ?_ _ | refine zha ?_ | refine zfa ?_ _)); exact BK289.out) hb); replace HB := zaa.mk (zma (by repeat (first | (with_reducible first | exact HB.out | apply zda | apply zba | apply zca | refine zea ?_ GE289.out) | exact HB.out)) hb); (try clear hb); (try clear hb2); (try clear hk); (try clear hi); (try clear ho0)) | ((with_reducible refine zbb (N := 16) rfl ?_); refine Kd.S_lit (Kd.slice 32 k32) _ 33 ?hg (N := 16) ?hd (xs := ([[]] : List (List (S32)))) (inner := [.slice none 0 0]) (ok := fun _ => True) (okp := fun _ => True) ?hr ?hp (fun _ hk => hk) trivial (Below.refl _ _) (Nat.le_refl _) (by simp) ?_; (case hd => rfl); (case hg => rfl); (case hr => first | (go_simp; done) | (go_simp; rfl)); (case hp => exact (Reps.one (show Kd.M (Kd.slice 32 k32) _ _ _ [] [.slice none 0 0] from ⟨_, rfl, Kd.R_nil _ _ _ _ _⟩) (Reps.none _ _))); intro v294 w7 ho8 hb hg_ hnew_; clear hg_ hnew_; (first | rw [← Ny293.out] at ho8 | (simp only [Int.reduceToNat] at ho8; rw [← Ny293.out] at ho8)); replace HO292 := zaa.mk (Kd.V_elder' (by (with_reducible repeat (first | apply Kd.zza | apply Kd.zya | apply Kd.zib)); exact HO292.out) (Kd.S_base ho8) hb); have HO295 := zaa.mk (Kd.S_lower ho8 (zja (by repeat (first | (with_reducible first | exact HB.out | apply zda | apply zba | apply zca | refine zea ?_ GE289.out) | exact HB.out)))); replace BK289 := zaa.mk (zna (g := gb289) (o := .cells #[.int .i64 a0_0, .slice A0_1 l0_1.length c0_1] 66 (0, 0)) (by (with_reducible repeat (first | refine zga ?_ _ | refine zha ?_ | refine zfa ?_ _)); exact BK289.out) hb); replace HB := zaa.mk (zma (by repeat (first | (with_reducible first | exact HB.out | apply zda | apply zba | apply zca | refine zea ?_ GE289.out) | exact HB.out)) hb); clear hb ho8; obtain ⟨Ao9, co9, eo9⟩ := Kd.V_slice HO292.out; subst eo9))
 go_loopg [6, 19] k (fun kq v6 v19 w' => ∃ (x6_1 : List (List (S32))) (x19_1 : Int), v19 = .int .i64 x19_1 ∧ zaa (zhb.l0 kq t290 x6_1 t290 (t290.length : Int) x19_1 = some r) ∧ zaa (kq ≤ k) ∧ zaa (Kd.V k32 32 w' w.heap.size (fun k_ => some k_ ≠ (v6 : Value).ownBlock ∧ k_ ≠ gb289) (.slice Ao9 t290.length co9) t290) ∧ zaa (Kd.S (Kd.slice 32 k32) 33 w' w.heap.size (fun _ => True) v6 x6_1) ∧ zaa (Kd.V k32 32 w' w.heap.size (fun k_ => some k_ ≠ (v6 : Value).ownBlock ∧ k_ ≠ gb289) (.slice Ao9 t290.length co9) t290) ∧ zaa (w'.heap[gb289]? = some (.cells #[.int .i64 a0_0, (.slice A0_1 l0_1.length c0_1)] 66 (0, 0))) ∧ zaa (Below w.heap.size w w'))
 case atStart => exact ⟨(y293), (0), (by first | rfl | (simp; done) | (simp [*]; done)), H', ⟨Nat.le_refl _⟩, ⟨by (with_reducible repeat (first | apply Kd.zza | apply Kd.zya | apply Kd.zib)); exact Kd.zcc HO292.out (fun _ hk => ⟨hk.2, hk.1⟩)⟩, ⟨by (with_reducible repeat (first | apply Kd.S_alloc | apply Kd.S_drewN | apply Kd.S_drew)); exact HO295.out⟩, ⟨by (with_reducible repeat (first | apply Kd.zza | apply Kd.zya | apply Kd.zib)); exact Kd.zcc HO292.out (fun _ hk => ⟨hk.2, hk.1⟩)⟩, ⟨by (with_reducible repeat (first | refine zga ?_ _ | refine zha ?_ | refine zfa ?_ _)); exact BK289.out⟩, ⟨by repeat (first | (with_reducible first | exact HB.out | apply zda | apply zba | apply zca | refine zea ?_ GE289.out) | exact HB.out)⟩⟩
 case round =>
  clear H'
  try clear c1
  try clear p2
  try clear c4
  try clear c7
  try clear hcz5_0
  try clear hcz5_1
  try clear hfz5_0
  try clear hfz5_1
  obtain ⟨x6_1, x19_1, rfl, HA, HK1, HO_5, HO_6, HO_17, BK289, HB⟩ := hrel
  cases gk with
  | zero => exact absurd HA.out (by simp [zhb.l0])
  | succ k1 =>
   have H := HA.out
   clear HA
   simp only [zhb.l0] at H
   by_cases c10 : x19_1 < (t290.length : Int)
   · rw [if_pos c10] at H
     have c10b0 : decide (x19_1 < (t290.length : Int)) = true := decide_eq_true c10
     clear c10
     by_cases c11 : 0 ≤ x19_1
     · rw [if_pos c11] at H
       have c11b0 : decide (0 ≤ x19_1) = true := decide_eq_true c11
       clear c11
       by_cases c12 : x19_1 < (t290.length : Int)
       · rw [if_pos c12] at H
         have c12b0 : decide (x19_1 < (t290.length : Int)) = true := decide_eq_true c12
         clear c12
         obtain ⟨y298, hy298⟩ : ∃ y_ : List (S32), y_ = (([(⟨(zta t290 x19_1).f0, (zta t290 x19_1).f1, (zta t290 x19_1).f2⟩ : S32)] : List (S32))) := ⟨_, rfl⟩
         replace H : (if x6_1.length < 5864062014805 then (zhb.l0 k1 t290 (x6_1 ++ [y298]) t290 (t290.length : Int) (wrap64 (x19_1 + 1))) else (none)) = some r := by first | (rw [hy298]; with_reducible exact H) | (have H2_ := (Option.bind_some _ _).symm.trans H; rw [hy298]; with_reducible exact H2_) | (have H2_ := (Option.bind_some _ _).symm.trans H; with_reducible exact H2_) | with_reducible exact H | (rw [hy298]; exact H) | exact H
         have Ny298 := zaa.mk hy298
         clear hy298
         by_cases c13 : x6_1.length < 5864062014805
         · rw [if_pos c13] at H
           have LMc13 := zaa.mk c13
           clear c13
           obtain ⟨y301, hy301⟩ : ∃ y_ : List (List (S32)), y_ = (x6_1 ++ [y298]) := ⟨_, rfl⟩
           replace H : (zhb.l0 k1 t290 y301 t290 (t290.length : Int) (wrap64 (x19_1 + 1))) = some r := by first | (rw [hy301]; with_reducible exact H) | (have H2_ := (Option.bind_some _ _).symm.trans H; rw [hy301]; with_reducible exact H2_) | (have H2_ := (Option.bind_some _ _).symm.trans H; with_reducible exact H2_) | with_reducible exact H | (rw [hy301]; exact H) | exact H
           have Ny301 := zaa.mk hy301
           clear hy301
           have H' := zaa.mk H
           clear H
           have p296 : 0 ≤ (x19_1 : Int) := of_decide_eq_true (by first | (with_reducible assumption) | assumption)
           have q296 : x19_1 < (t290.length : Int) := of_decide_eq_true (by first | (with_reducible assumption) | assumption)
           obtain ⟨ad296, e296, hx296_0, hx296_1, hx296_2⟩ := at_T32 (Kd.zwd HO_17.out).2.2 x19_1 p296 q296
           cases e296
           replace p296 := eq_true p296
           replace q296 := eq_true q296
           go_wp2_with (first | ((with_reducible refine zbb (N := 8) rfl ?_); refine zob ?hg (N := 8) ?hd (cs := #[.int .i64 0, .int .i64 0, .int .i64 0]) (t := 32) ?hr ?_; (case hd => rfl); (case hg => rfl); (case hr => first | (go_simp; done) | (go_simp; rfl)); intro gb297 hg w14 hbox hb; replace HO_5 := zaa.mk (Kd.zqc (Kd.zld (by (with_reducible repeat (first | apply Kd.zza | apply Kd.zya | apply Kd.zib)); exact HO_5.out) gb297 (Nat.le_of_eq hg.symm)) hb); replace HO_6 := zaa.mk (Kd.S_below (Kd.S_elderB (by (with_reducible repeat (first | apply Kd.S_alloc | apply Kd.S_drewN | apply Kd.S_drew)); exact HO_6.out) gb297 (Nat.le_of_eq hg.symm)) hb); replace HO_17 := zaa.mk (Kd.zqc (Kd.zld (by (with_reducible repeat (first | apply Kd.zza | apply Kd.zya | apply Kd.zib)); exact HO_17.out) gb297 (Nat.le_of_eq hg.symm)) hb); have BK297 := zaa.mk (hbox); have GW297 := zaa.mk ((by rw [hg]; exact (zja (by repeat (first | (with_reducible first | exact HB.out | apply zda | apply zba | apply zca | refine zea ?_ GE289.out) | exact HB.out))) : w.heap.size ≤ gb297)); have GE297 := zaa.mk ((by rw [hg]; exact (zja (by repeat (first | (with_reducible first | exact HB.out | apply zda | apply zba | apply zca | refine zea ?_ GE289.out) | exact HB.out))) : w.heap.size ≤ gb297)); replace HB := zaa.mk (zma (by repeat (first | (with_reducible first | exact HB.out | apply zda | apply zba | apply zca | refine zea ?_ GE289.out) | exact HB.out)) hb); have NB289_297 := zaa.mk ((by rw [hg]; exact Nat.ne_of_lt (zbc (g := gb289) (o := .cells #[.int .i64 a0_0, .slice A0_1 l0_1.length c0_1] 66 (0, 0)) (by (with_reducible repeat (first | refine zga ?_ _ | refine zha ?_ | refine zfa ?_ _)); exact BK289.out)) : gb289 ≠ gb297)); have NB297_289 := zaa.mk ((by rw [hg]; exact Nat.ne_of_gt (zbc (g := gb289) (o := .cells #[.int .i64 a0_0, .slice A0_1 l0_1.length c0_1] 66 (0, 0)) (by (with_reducible repeat (first | refine zga ?_ _ | refine zha ?_ | refine zfa ?_ _)); exact BK289.out)) : gb297 ≠ gb289)); replace BK289 := zaa.mk (zna (g := gb289) (o := .cells #[.int .i64 a0_0, .slice A0_1 l0_1.length c0_1] 66 (0, 0)) (by (with_reducible repeat (first | refine zga ?_ _ | refine zha ?_ | refine zfa ?_ _)); exact BK289.out) hb); clear hb hbox hg; have hnb15 := NB297_289.out; have hnc15 := NB289_297.out; have hcz16_0 : w14.cell? ⟨gb297, 0, none⟩ = some (.int .i64 0) := (zla BK297.out 0).trans rfl; have hcz16_1 : w14.cell? ⟨gb297, 1, none⟩ = some (.int .i64 0) := (zla BK297.out 1).trans rfl; have hcz16_2 : w14.cell? ⟨gb297, 2, none⟩ = some (.int .i64 0) := (zla BK297.out 2).trans rfl; have hfz16_0 := zka BK297.out 0; have hfz16_1 := zka BK297.out 1; have hfz16_2 := zka BK297.out 2) | ((with_reducible refine zbb (N := 25) rfl ?_); refine Kd.R_lit k32 _ 32 ?hg (N := 25) ?hd (xs := ([(⟨(zta t290 x19_1).f0, (zta t290 x19_1).f1, (zta t290 x19_1).f2⟩ : S32)] : List (S32))) (inner := [.int .i64 ((zta t290 x19_1).f0), .int .i64 ((zta t290 x19_1).f1), .int .i64 ((zta t290 x19_1).f2)]) (ok := fun _ => True) (okp := fun _ => True) ?hr ?hp (fun _ hk => hk) trivial (Below.refl _ _) (Nat.le_refl _) (by simp) ?_; (case hd => rfl); (case hg => rfl); (case hr => first | (go_simp; done) | (go_simp; rfl)); (case hp => exact (Reps.c3 (show Kd.M k32 _ _ _ (⟨(zta t290 x19_1).f0, (zta t290 x19_1).f1, (zta t290 x19_1).f2⟩ : S32) [.int .i64 ((zta t290 x19_1).f0), .int .i64 ((zta t290 x19_1).f1), .int .i64 ((zta t290 x19_1).f2)] from (k32_mkM _ _ _ (⟨(zta t290 x19_1).f0, (zta t290 x19_1).f1, (zta t290 x19_1).f2⟩ : S32) )) (Reps.none _ _))); intro v299 w17 ho18 hb hg_ hnew_; clear hg_ hnew_; (first | rw [← Ny298.out] at ho18 | (simp only [Int.reduceToNat] at ho18; rw [← Ny298.out] at ho18)); replace HO_5 := zaa.mk (Kd.V_elder' (by (with_reducible repeat (first | apply Kd.zza | apply Kd.zya | apply Kd.zib)); exact (Kd.zcc (Kd.zbe (p := ⟨gb297, 2, none⟩) (Kd.zbe (p := ⟨gb297, 1, none⟩) (Kd.zbe (p := ⟨gb297, 0, none⟩) (Kd.zcc HO_5.out (fun k_ hk => (⟨hk, hk.2⟩ : _ ∧ k_ ≠ gb297))) (fun _ hk => hk.2) (.int .i64 ((zta t290 x19_1).f0))) (fun _ hk => hk.2) (.int .i64 ((zta t290 x19_1).f1))) (fun _ hk => hk.2) (.int .i64 ((zta t290 x19_1).f2))) (fun _ h_ => h_.1))) (Kd.zxd ho18) hb); replace HO_6 := zaa.mk (Kd.S_elder' (by (with_reducible repeat (first | apply Kd.S_alloc | apply Kd.S_drewN | apply Kd.S_drew)); exact (Kd.S_mono (Kd.S_far (p := ⟨gb297, 2, none⟩) (Kd.S_far (p := ⟨gb297, 1, none⟩) (Kd.S_far (p := ⟨gb297, 0, none⟩) (Kd.S_mono HO_6.out (fun k_ hk => (⟨hk, hk.2⟩ : _ ∧ k_ ≠ gb297))) (fun _ hk => hk.2) (.int .i64 ((zta t290 x19_1).f0))) (fun _ hk => hk.2) (.int .i64 ((zta t290 x19_1).f1))) (fun _ hk => hk.2) (.int .i64 ((zta t290 x19_1).f2))) (fun _ h_ => h_.1))) (Kd.zxd ho18) hb); replace HO_17 := zaa.mk (Kd.V_elder' (by (with_reducible repeat (first | apply Kd.zza | apply Kd.zya | apply Kd.zib)); exact (Kd.zcc (Kd.zbe (p := ⟨gb297, 2, none⟩) (Kd.zbe (p := ⟨gb297, 1, none⟩) (Kd.zbe (p := ⟨gb297, 0, none⟩) (Kd.zcc HO_17.out (fun k_ hk => (⟨hk, hk.2⟩ : _ ∧ k_ ≠ gb297))) (fun _ hk => hk.2) (.int .i64 ((zta t290 x19_1).f0))) (fun _ hk => hk.2) (.int .i64 ((zta t290 x19_1).f1))) (fun _ hk => hk.2) (.int .i64 ((zta t290 x19_1).f2))) (fun _ h_ => h_.1))) (Kd.zxd ho18) hb); have HO300 := zaa.mk (Kd.znd (Kd.R_newB ho18 (g := gb297) (o := .cells #[.int .i64 ((zta t290 x19_1).f0), .int .i64 ((zta t290 x19_1).f1), .int .i64 ((zta t290 x19_1).f2)] 32 (0, 0)) (by (with_reducible repeat (first | refine zga ?_ _ | refine zha ?_ | refine zfa ?_ _)); refine zzc (cs := #[.int .i64 ((zta t290 x19_1).f0), .int .i64 ((zta t290 x19_1).f1), .int .i64 0]) ?_ 2 _ rfl; (with_reducible repeat (first | refine zga ?_ _ | refine zha ?_ | refine zfa ?_ _)); refine zzc (cs := #[.int .i64 ((zta t290 x19_1).f0), .int .i64 0, .int .i64 0]) ?_ 1 _ rfl; (with_reducible repeat (first | refine zga ?_ _ | refine zha ?_ | refine zfa ?_ _)); refine zzc (cs := #[.int .i64 0, .int .i64 0, .int .i64 0]) ?_ 0 _ rfl; (with_reducible repeat (first | refine zga ?_ _ | refine zha ?_ | refine zfa ?_ _)); exact BK297.out)) (zja (by repeat (first | (with_reducible first | exact HB.out | apply zda | apply zba | apply zca | refine zea ?_ GE289.out | refine zea ?_ GE297.out) | exact HB.out)))); replace BK289 := zaa.mk (zna (g := gb289) (o := .cells #[.int .i64 a0_0, .slice A0_1 l0_1.length c0_1] 66 (0, 0)) (by (with_reducible repeat (first | refine zga ?_ _ | refine zha ?_ | refine zfa ?_ _)); refine zsc ?_ NB289_297.out _; (with_reducible repeat (first | refine zga ?_ _ | refine zha ?_ | refine zfa ?_ _)); refine zsc ?_ NB289_297.out _; (with_reducible repeat (first | refine zga ?_ _ | refine zha ?_ | refine zfa ?_ _)); refine zsc ?_ NB289_297.out _; (with_reducible repeat (first | refine zga ?_ _ | refine zha ?_ | refine zfa ?_ _)); exact BK289.out) hb); replace BK297 := zaa.mk (zna (g := gb297) (o := .cells #[.int .i64 ((zta t290 x19_1).f0), .int .i64 ((zta t290 x19_1).f1), .int .i64 ((zta t290 x19_1).f2)] 32 (0, 0)) (by (with_reducible repeat (first | refine zga ?_ _ | refine zha ?_ | refine zfa ?_ _)); refine zzc (cs := #[.int .i64 ((zta t290 x19_1).f0), .int .i64 ((zta t290 x19_1).f1), .int .i64 0]) ?_ 2 _ rfl; (with_reducible repeat (first | refine zga ?_ _ | refine zha ?_ | refine zfa ?_ _)); refine zzc (cs := #[.int .i64 ((zta t290 x19_1).f0), .int .i64 0, .int .i64 0]) ?_ 1 _ rfl; (with_reducible repeat (first | refine zga ?_ _ | refine zha ?_ | refine zfa ?_ _)); refine zzc (cs := #[.int .i64 0, .int .i64 0, .int .i64 0]) ?_ 0 _ rfl; (with_reducible repeat (first | refine zga ?_ _ | refine zha ?_ | refine zfa ?_ _)); exact BK297.out) hb); replace HB := zaa.mk (zma (by repeat (first | (with_reducible first | exact HB.out | apply zda | apply zba | apply zca | refine zea ?_ GE289.out | refine zea ?_ GE297.out) | exact HB.out)) hb); clear hb ho18; obtain ⟨Ao20, co20, eo20⟩ := Kd.zfd HO300.out; subst eo20) | ((with_reducible refine gate_builtin (b := .append) (xs := #[.tmp 23, .tmp 26]) rfl ?_); at_builtin; refine Kd.S_append (Kd.slice 32 k32) (w0 := w) w.heap.size rfl (.tmp 23) (.tmp 26) 87 33 (.slice none 0 0) 24 rfl Tryz.underlying87 info33 rfl (by decide) (by omega) u6 x6_1 y298 [.slice Ao20 y298.length co20] (fun k_ => k_ ≠ gb297) (fun k_ => some k_ = (.slice Ao20 y298.length co20 : Value).ownBlock) rfl rfl ?aP (fun k_ hk_ => ((Kd.zsd (ok' := fun k_ => ((fun k_ => k_ ≠ gb297)) k_ ∧ some k_ ≠ (u6 : Value).ownBlock) (Kd.zfc (HO300.out) (Kd.S_typed HO_6.out) (by decide)) (fun k_ hk => ⟨hk.1.2, hk.2⟩))).1 k_ hk_.symm) ?aF ?aO ?aB ?aS ?aL ?_; (case aP => exact Kd.M_row (Kd.zsd (Kd.R_tight rfl (Kd.zsd (ok' := fun k_ => ((fun k_ => k_ ≠ gb297)) k_ ∧ some k_ ≠ (u6 : Value).ownBlock) (Kd.zfc (HO300.out) (Kd.S_typed HO_6.out) (by decide)) (fun k_ hk => ⟨hk.1.2, hk.2⟩))) (fun _ h_ => h_))); (case aB => exact (by repeat (first | (with_reducible first | exact HB.out | apply zda | apply zba | apply zca | refine zea ?_ GE289.out | refine zea ?_ GE297.out) | exact HB.out))); (case aF => exact (fun k_ hk => Kd.freshB (g := gb297) (o := .cells #[.int .i64 ((zta t290 x19_1).f0), .int .i64 ((zta t290 x19_1).f1), .int .i64 ((zta t290 x19_1).f2)] 32 (0, 0)) (by (with_reducible repeat (first | refine zga ?_ _ | refine zha ?_ | refine zfa ?_ _)); exact BK297.out) k_ hk)); (case aO => exact (by (with_reducible repeat (first | apply Kd.S_alloc | apply Kd.S_drewN | apply Kd.S_drew)); exact Kd.S_mono HO_6.out (fun k_ hk => ⟨hk.1.2, fun e_ => hk.2 e_⟩))); (case aS => exact (zja (by repeat (first | (with_reducible first | exact HB.out | apply zda | apply zba | apply zca | refine zea ?_ GE289.out | refine zea ?_ GE297.out) | exact HB.out)))); (case aL => have := LMc13.out; omega); intro v302 w19 ho hb hg hat; rw [← Ny301.out] at ho; replace HO_5 := zaa.mk (Kd.V_afterv (ok := (fun k_ => some k_ ≠ (.slice Ao20 y298.length co20 : Value).ownBlock ∧ k_ ≠ gb289 ∧ k_ ≠ gb297)) (by (with_reducible repeat (first | apply Kd.zza | apply Kd.zya | apply Kd.zib)); exact Kd.zcc HO_5.out (fun _ hk => ⟨⟨hk.2, ⟨hk.1.1.2, hk.1.2⟩⟩, hk.1.1.1⟩)) hg hat); replace HO_17 := zaa.mk (Kd.V_afterv (ok := (fun k_ => some k_ ≠ (.slice Ao20 y298.length co20 : Value).ownBlock ∧ k_ ≠ gb289 ∧ k_ ≠ gb297)) (by (with_reducible repeat (first | apply Kd.zza | apply Kd.zya | apply Kd.zib)); exact Kd.zcc HO_17.out (fun _ hk => ⟨⟨hk.2, ⟨hk.1.1.2, hk.1.2⟩⟩, hk.1.1.1⟩)) hg hat); replace BK289 := zaa.mk (blk_grown (g := gb289) (o := .cells #[.int .i64 a0_0, .slice A0_1 l0_1.length c0_1] 66 (0, 0)) (by (with_reducible repeat (first | refine zga ?_ _ | refine zha ?_ | refine zfa ?_ _)); exact BK289.out) hg (Kd.S_ne HO_6.out BK289.out (by decide))); replace BK297 := zaa.mk (blk_grown (g := gb297) (o := .cells #[.int .i64 ((zta t290 x19_1).f0), .int .i64 ((zta t290 x19_1).f1), .int .i64 ((zta t290 x19_1).f2)] 32 (0, 0)) (by (with_reducible repeat (first | refine zga ?_ _ | refine zha ?_ | refine zfa ?_ _)); exact BK297.out) hg (Kd.S_ne HO_6.out BK297.out (by decide))); replace HB := zaa.mk (hb); have HO303 := zaa.mk (ho); clear HO_6; clear HO300; clear ho hb hg hat))
           go_roundg k1
           case measure => have := HK1.out; omega
           case rel => exact ⟨(y301), (wrap64 (x19_1 + 1)), (by first | rfl | (simp; done) | (simp [*]; done)), H', ⟨by have := HK1.out; omega⟩, ⟨by (with_reducible repeat (first | apply Kd.zza | apply Kd.zya | apply Kd.zib)); exact Kd.zcc HO_5.out (fun _ hk => ⟨hk.2, hk.1.2.1⟩)⟩, ⟨by (with_reducible repeat (first | apply Kd.S_alloc | apply Kd.S_drewN | apply Kd.S_drew)); exact Kd.S_mono HO303.out (fun _ hk => trivial)⟩, ⟨by (with_reducible repeat (first | apply Kd.zza | apply Kd.zya | apply Kd.zib)); exact Kd.zcc HO_17.out (fun _ hk => ⟨hk.2, hk.1.2.1⟩)⟩, ⟨by (with_reducible repeat (first | refine zga ?_ _ | refine zha ?_ | refine zfa ?_ _)); exact BK289.out⟩, ⟨by repeat (first | (with_reducible first | exact HB.out | apply zda | apply zba | apply zca | refine zea ?_ GE289.out | refine zea ?_ GE297.out) | exact HB.out)⟩⟩
         · rw [if_neg c13] at H
           exact absurd H (by simp)
       · rw [if_neg c12] at H
         exact absurd H (by simp)
     · rw [if_neg c11] at H
       exact absurd H (by simp)
   · rw [if_neg c10] at H
     have c10b0 : decide (x19_1 < (t290.length : Int)) = false := decide_eq_false c10
     clear c10
     have H' := zaa.mk H
     clear H
     go_wp2
     go_loopg [6, 31] k1 (fun kq v6 v31 w' => ∃ (x6_2 : List (List (S32))) (x31_2 : Int), v31 = .int .i64 x31_2 ∧ zaa (zhb.l1 kq t290 x6_2 t290 (t290.length : Int) x31_2 = some r) ∧ zaa (kq ≤ k1) ∧ zaa (Kd.V k32 32 w' w.heap.size (fun k_ => some k_ ≠ (v6 : Value).ownBlock ∧ k_ ≠ gb289) (.slice Ao9 t290.length co9) t290) ∧ zaa (Kd.S (Kd.slice 32 k32) 33 w' w.heap.size (fun _ => True) v6 x6_2) ∧ zaa (Kd.V k32 32 w' w.heap.size (fun k_ => some k_ ≠ (v6 : Value).ownBlock ∧ k_ ≠ gb289) (.slice Ao9 t290.length co9) t290) ∧ zaa (w'.heap[gb289]? = some (.cells #[.int .i64 a0_0, (.slice A0_1 l0_1.length c0_1)] 66 (0, 0))) ∧ zaa (Below w.heap.size w w'))
     case atStart => exact ⟨(x6_1), (0), (by first | rfl | (simp; done) | (simp [*]; done)), H', ⟨Nat.le_refl _⟩, ⟨by (with_reducible repeat (first | apply Kd.zza | apply Kd.zya | apply Kd.zib)); exact HO_5.out⟩, ⟨by (with_reducible repeat (first | apply Kd.S_alloc | apply Kd.S_drewN | apply Kd.S_drew)); exact HO_6.out⟩, ⟨by (with_reducible repeat (first | apply Kd.zza | apply Kd.zya | apply Kd.zib)); exact HO_5.out⟩, ⟨by (with_reducible repeat (first | refine zga ?_ _ | refine zha ?_ | refine zfa ?_ _)); exact BK289.out⟩, ⟨by repeat (first | (with_reducible first | exact HB.out | apply zda | apply zba | apply zca | refine zea ?_ GE289.out) | exact HB.out)⟩⟩
     case round =>
      clear H'
      try clear c1
      try clear p2
      try clear q2
      try clear hx2
      try clear c3
      try clear c4
      try clear p6
      try clear c7
      try clear c10
      try clear c10b0
      try clear c11
      try clear c11b0
      try clear c12
      try clear c12b0
      try clear c13
      try clear c15
      try clear hcz16_0
      try clear hcz16_1
      try clear hcz16_2
      try clear hcz5_0
      try clear hcz5_1
      try clear hfz16_0
      try clear hfz16_1
      try clear hfz16_2
      try clear hfz5_0
      try clear hfz5_1
      try clear hx296_0
      try clear hx296_1
      try clear hx296_2
      try clear p2
      try clear p296
      try clear q296
      obtain ⟨x6_2, x31_2, rfl, HA, HK2, HO_5, HO_6, HO_29, BK289, HB⟩ := hrel
      cases gk with
      | zero => exact absurd HA.out (by simp [zhb.l1])
      | succ k2 =>
       have H := HA.out
       clear HA
       simp only [zhb.l1] at H
       by_cases c21 : x31_2 < (t290.length : Int)
       · rw [if_pos c21] at H
         have c21b0 : decide (x31_2 < (t290.length : Int)) = true := decide_eq_true c21
         clear c21
         by_cases c22 : 0 ≤ x31_2
         · rw [if_pos c22] at H
           have c22b0 : decide (0 ≤ x31_2) = true := decide_eq_true c22
           clear c22
           by_cases c23 : x31_2 < (t290.length : Int)
           · rw [if_pos c23] at H
             have c23b0 : decide (x31_2 < (t290.length : Int)) = true := decide_eq_true c23
             clear c23
             obtain ⟨ji24, hji24⟩ : ∃ j_ : Int, (wrap64 (x31_2 + 1)) = j_ := ⟨_, rfl⟩
             replace H : (if 0 ≤ (ji24) then (if (ji24) ≤ (t290.length : Int) then ((some (t290.drop ((ji24) : Int).toNat : List (S32))).bind fun y306 => (zhb.l2 k2 t290 x6_2 t290 (t290.length : Int) x31_2 y306 (y306.length : Int) 0 ((zta t290 x31_2).f0) ((zta t290 x31_2).f1) ((zta t290 x31_2).f2))) else (none)) else (none)) = some r := by first | (rw [hji24] at H; exact H) | (simp only [hji24] at H ⊢; exact H)
             have hji24w : (IntKind.i64.wrap (x31_2 + 1)) = ji24 := (zpb _).trans hji24
             by_cases c25 : 0 ≤ (ji24)
             · rw [if_pos c25] at H
               have c25b0 := eq_true c25
               have c25b1 : decide (0 ≤ (ji24)) = true := decide_eq_true c25
               clear c25
               by_cases c26 : (ji24) ≤ (t290.length : Int)
               · rw [if_pos c26] at H
                 have c26b0 := eq_true c26
                 have c26b1 : decide ((ji24) ≤ (t290.length : Int)) = true := decide_eq_true c26
                 clear c26
                 obtain ⟨y306, hy306⟩ : ∃ y_ : List (S32), y_ = (t290.drop ((ji24) : Int).toNat) := ⟨_, rfl⟩
                 replace H : (zhb.l2 k2 t290 x6_2 t290 (t290.length : Int) x31_2 y306 (y306.length : Int) 0 ((zta t290 x31_2).f0) ((zta t290 x31_2).f1) ((zta t290 x31_2).f2)) = some r := by first | (rw [hy306]; with_reducible exact H) | (have H2_ := (Option.bind_some _ _).symm.trans H; rw [hy306]; with_reducible exact H2_) | (have H2_ := (Option.bind_some _ _).symm.trans H; with_reducible exact H2_) | with_reducible exact H | (rw [hy306]; exact H) | exact H
                 have Ny306 := zaa.mk hy306
                 clear hy306
                 have H' := zaa.mk H
                 clear H
                 have p304 : 0 ≤ (x31_2 : Int) := of_decide_eq_true (by first | (with_reducible assumption) | assumption)
                 have q304 : x31_2 < (t290.length : Int) := of_decide_eq_true (by first | (with_reducible assumption) | assumption)
                 obtain ⟨ad304, e304, hx304_0, hx304_1, hx304_2⟩ := at_T32 (Kd.zwd HO_29.out).2.2 x31_2 p304 q304
                 cases e304
                 replace p304 := eq_true p304
                 replace q304 := eq_true q304
                 go_wp2_with (first | ((with_reducible refine zbb (N := 10) rfl ?_); refine zob ?hg (N := 10) ?hd (cs := #[.int .i64 0, .int .i64 0, .int .i64 0]) (t := 32) ?hr ?_; (case hd => rfl); (case hg => rfl); (case hr => first | (go_simp; done) | (go_simp; rfl)); intro gb305 hg w27 hbox hb; replace HO_5 := zaa.mk (Kd.zqc (Kd.zld (by (with_reducible repeat (first | apply Kd.zza | apply Kd.zya | apply Kd.zib)); exact HO_5.out) gb305 (Nat.le_of_eq hg.symm)) hb); replace HO_6 := zaa.mk (Kd.S_below (Kd.S_elderB (by (with_reducible repeat (first | apply Kd.S_alloc | apply Kd.S_drewN | apply Kd.S_drew)); exact HO_6.out) gb305 (Nat.le_of_eq hg.symm)) hb); replace HO_29 := zaa.mk (Kd.zqc (Kd.zld (by (with_reducible repeat (first | apply Kd.zza | apply Kd.zya | apply Kd.zib)); exact HO_29.out) gb305 (Nat.le_of_eq hg.symm)) hb); have BK305 := zaa.mk (hbox); have GW305 := zaa.mk ((by rw [hg]; exact (zja (by repeat (first | (with_reducible first | exact HB.out | apply zda | apply zba | apply zca | refine zea ?_ GE289.out) | exact HB.out))) : w.heap.size ≤ gb305)); have GE305 := zaa.mk ((by rw [hg]; exact (zja (by repeat (first | (with_reducible first | exact HB.out | apply zda | apply zba | apply zca | refine zea ?_ GE289.out) | exact HB.out))) : w.heap.size ≤ gb305)); replace HB := zaa.mk (zma (by repeat (first | (with_reducible first | exact HB.out | apply zda | apply zba | apply zca | refine zea ?_ GE289.out) | exact HB.out)) hb); have NB289_305 := zaa.mk ((by rw [hg]; exact Nat.ne_of_lt (zbc (g := gb289) (o := .cells #[.int .i64 a0_0, .slice A0_1 l0_1.length c0_1] 66 (0, 0)) (by (with_reducible repeat (first | refine zga ?_ _ | refine zha ?_ | refine zfa ?_ _)); exact BK289.out)) : gb289 ≠ gb305)); have NB305_289 := zaa.mk ((by rw [hg]; exact Nat.ne_of_gt (zbc (g := gb289) (o := .cells #[.int .i64 a0_0, .slice A0_1 l0_1.length c0_1] 66 (0, 0)) (by (with_reducible repeat (first | refine zga ?_ _ | refine zha ?_ | refine zfa ?_ _)); exact BK289.out)) : gb305 ≠ gb289)); replace BK289 := zaa.mk (zna (g := gb289) (o := .cells #[.int .i64 a0_0, .slice A0_1 l0_1.length c0_1] 66 (0, 0)) (by (with_reducible repeat (first | refine zga ?_ _ | refine zha ?_ | refine zfa ?_ _)); exact BK289.out) hb); clear hb hbox hg; have hnb28 := NB305_289.out; have hnc28 := NB289_305.out; have hcz29_0 : w27.cell? ⟨gb305, 0, none⟩ = some (.int .i64 0) := (zla BK305.out 0).trans rfl; have hcz29_1 : w27.cell? ⟨gb305, 1, none⟩ = some (.int .i64 0) := (zla BK305.out 1).trans rfl; have hcz29_2 : w27.cell? ⟨gb305, 2, none⟩ = some (.int .i64 0) := (zla BK305.out 2).trans rfl; have hfz29_0 := zka BK305.out 0; have hfz29_1 := zka BK305.out 1; have hfz29_2 := zka BK305.out 2) | ((with_reducible refine gate_store (t := 32) (p := 10) rfl ?_); refine store_event (t := 32) (p := 10) (v := ?vo_w30) (w1 := (((w27.setCell ⟨gb305, 0, none⟩ (.int .i64 ((zta t290 x31_2).f0))).setCell ⟨gb305, 1, none⟩ (.int .i64 ((zta t290 x31_2).f1))).setCell ⟨gb305, 2, none⟩ (.int .i64 ((zta t290 x31_2).f2)))) ?hg ?ho ?hn ?hr ?_; (case ho => rfl); (case hg => rfl); (case hn => rfl); (case hr => first | (go_simp; done) | (go_simp; rfl)); intro w30 hw; have n0_ : zaa (Kd.V k32 32 w30 w.heap.size (fun k_ => some k_ ≠ (u6 : Value).ownBlock ∧ k_ ≠ gb289 ∧ k_ ≠ gb305) (.slice (some ad304) t290.length co9) t290) := ⟨(by rw [hw]; exact (by (with_reducible repeat (first | apply Kd.zza | apply Kd.zya | apply Kd.zib)); exact Kd.zcc (Kd.zbe (p := ⟨gb305, 2, none⟩) (Kd.zbe (p := ⟨gb305, 1, none⟩) (Kd.zbe (p := ⟨gb305, 0, none⟩) (Kd.zcc HO_5.out (fun k_ hk => (⟨hk, hk.2⟩ : _ ∧ k_ ≠ gb305))) (fun _ hk => hk.2) (.int .i64 ((zta t290 x31_2).f0))) (fun _ hk => hk.2) (.int .i64 ((zta t290 x31_2).f1))) (fun _ hk => hk.2) (.int .i64 ((zta t290 x31_2).f2))) (fun _ hk => ⟨hk.1.1.1, ⟨hk.1.1.2, hk.1.2⟩⟩)))⟩; have n1_ : zaa (Kd.S (Kd.slice 32 k32) 33 w30 w.heap.size (fun k_ => k_ ≠ gb305) u6 x6_2) := ⟨(by rw [hw]; exact (by (with_reducible repeat (first | apply Kd.S_alloc | apply Kd.S_drewN | apply Kd.S_drew)); exact Kd.S_mono (Kd.S_far (p := ⟨gb305, 2, none⟩) (Kd.S_far (p := ⟨gb305, 1, none⟩) (Kd.S_far (p := ⟨gb305, 0, none⟩) (Kd.S_mono HO_6.out (fun k_ hk => (⟨hk, hk.2⟩ : _ ∧ k_ ≠ gb305))) (fun _ hk => hk.2) (.int .i64 ((zta t290 x31_2).f0))) (fun _ hk => hk.2) (.int .i64 ((zta t290 x31_2).f1))) (fun _ hk => hk.2) (.int .i64 ((zta t290 x31_2).f2))) (fun _ hk => hk.1.2)))⟩; have n2_ : zaa (Kd.V k32 32 w30 w.heap.size (fun k_ => some k_ ≠ (u6 : Value).ownBlock ∧ k_ ≠ gb289 ∧ k_ ≠ gb305) (.slice (some ad304) t290.length co9) t290) := ⟨(by rw [hw]; exact (by (with_reducible repeat (first | apply Kd.zza | apply Kd.zya | apply Kd.zib)); exact Kd.zcc (Kd.zbe (p := ⟨gb305, 2, none⟩) (Kd.zbe (p := ⟨gb305, 1, none⟩) (Kd.zbe (p := ⟨gb305, 0, none⟩) (Kd.zcc HO_29.out (fun k_ hk => (⟨hk, hk.2⟩ : _ ∧ k_ ≠ gb305))) (fun _ hk => hk.2) (.int .i64 ((zta t290 x31_2).f0))) (fun _ hk => hk.2) (.int .i64 ((zta t290 x31_2).f1))) (fun _ hk => hk.2) (.int .i64 ((zta t290 x31_2).f2))) (fun _ hk => ⟨hk.1.1.1, ⟨hk.1.1.2, hk.1.2⟩⟩)))⟩; have n3_ : zaa (w30.heap[gb289]? = some (.cells #[.int .i64 a0_0, .slice A0_1 l0_1.length c0_1] 66 (0, 0))) := ⟨(by rw [hw]; exact (by (with_reducible repeat (first | refine zga ?_ _ | refine zha ?_ | refine zfa ?_ _)); refine zsc ?_ NB289_305.out _; (with_reducible repeat (first | refine zga ?_ _ | refine zha ?_ | refine zfa ?_ _)); refine zsc ?_ NB289_305.out _; (with_reducible repeat (first | refine zga ?_ _ | refine zha ?_ | refine zfa ?_ _)); refine zsc ?_ NB289_305.out _; (with_reducible repeat (first | refine zga ?_ _ | refine zha ?_ | refine zfa ?_ _)); exact BK289.out))⟩; have n4_ : zaa (w30.heap[gb305]? = some (.cells #[.int .i64 ((zta t290 x31_2).f0), .int .i64 ((zta t290 x31_2).f1), .int .i64 ((zta t290 x31_2).f2)] 32 (0, 0))) := ⟨(by rw [hw]; exact (by (with_reducible repeat (first | refine zga ?_ _ | refine zha ?_ | refine zfa ?_ _)); refine zzc (cs := #[.int .i64 ((zta t290 x31_2).f0), .int .i64 ((zta t290 x31_2).f1), .int .i64 0]) ?_ 2 _ rfl; (with_reducible repeat (first | refine zga ?_ _ | refine zha ?_ | refine zfa ?_ _)); refine zzc (cs := #[.int .i64 ((zta t290 x31_2).f0), .int .i64 0, .int .i64 0]) ?_ 1 _ rfl; (with_reducible repeat (first | refine zga ?_ _ | refine zha ?_ | refine zfa ?_ _)); refine zzc (cs := #[.int .i64 0, .int .i64 0, .int .i64 0]) ?_ 0 _ rfl; (with_reducible repeat (first | refine zga ?_ _ | refine zha ?_ | refine zfa ?_ _)); exact BK305.out))⟩; have n5_ : zaa (Below w.heap.size w w30) := ⟨(by rw [hw]; exact (by repeat (first | (with_reducible first | exact HB.out | apply zda | apply zba | apply zca | refine zea ?_ GE289.out | refine zea ?_ GE305.out) | exact HB.out)))⟩; clear hw; clear HO_5; clear HO_6; clear HO_29; clear BK289; clear BK305; clear HB; have HO_5 := n0_; have HO_6 := n1_; have HO_29 := n2_; have BK289 := n3_; have BK305 := n4_; have HB := n5_; clear n0_ n1_ n2_ n3_ n4_ n5_; have q31 : ((ji24) : Int) ≤ ((t290.length : Int) : Int) := of_decide_eq_true (by first | (with_reducible assumption) | assumption); obtain ⟨i031, hi031, _, hsz31, _⟩ := info_parts info32; have hroom31 : t290.length ≤ co9 := (Kd.zwd HO_5.out).2.1; have hC31 : Kd.F k32 _ _ (some ad304) t290.length t290 := (Kd.V_at (base := w.heap.size) HO_5.out).2.2; have q031 : (0 : Int) ≤ ((ji24) : Int) := of_decide_eq_true (by first | (with_reducible assumption) | assumption); have hcut31 := cut_from (P := Tryz.prog) 33 32 .i64 Tryz.underlying33 hi031 3 hsz31 (some ad304) t290.length co9 (ji24) q031 q31; have hr31 := Kd.F_cut (m := ((ji24) : Int).toNat) (c := co9) hC31 (by omega) hroom31; obtain ⟨A31, hA31⟩ : ∃ A1, A1 = (if co9 = ((ji24) : Int).toNat then (some ad304) else ((some ad304) : Option Addr).map (·.add (((ji24) : Int).toNat * 3))) := ⟨_, rfl⟩; obtain ⟨c31, hc31⟩ : ∃ c1, c1 = co9 - ((ji24) : Int).toNat := ⟨_, rfl⟩; have hy31 : y306.length = t290.length - ((ji24) : Int).toNat := (by rw [Ny306.out, List.length_drop] <;> omega); rw [show (t290).drop ((ji24) : Int).toNat = y306 from Ny306.out.symm] at hr31; replace hr31 : Kd.F k32 _ _ A31 y306.length y306 := (by rw [hA31]; exact hr31); rw [← hy31, ← hA31, ← hc31] at hcut31; have HO310 := zaa.mk (show Kd.V k32 32 _ w.heap.size _ (.slice A31 y306.length c31) y306 from Kd.V_mk (by rw [hy31, hc31]; exact Nat.sub_le_sub_right hroom31 _) hr31); have HC310 := zaa.mk (show y306.length ≤ c31 from by rw [hy31, hc31]; exact Nat.sub_le_sub_right hroom31 _); clear hr31 hC31 hroom31 hi031 hsz31 hc31; have KY31 := zaa.mk hy31; have KA31 := zaa.mk hA31; clear hy31 hA31; replace q31 := eq_true q31))
                 go_loopg [6, 41] k2 (fun kq v6 v41 w' => ∃ (x6_3 : List (List (S32))) (x41_3 : Int), v41 = .int .i64 x41_3 ∧ zaa (zhb.l2 kq t290 x6_3 t290 (t290.length : Int) x31_2 y306 (y306.length : Int) x41_3 ((zta t290 x31_2).f0) ((zta t290 x31_2).f1) ((zta t290 x31_2).f2) = some r) ∧ zaa (kq ≤ k2) ∧ zaa (Kd.V k32 32 w' w.heap.size (fun k_ => some k_ ≠ (v6 : Value).ownBlock ∧ k_ ≠ gb289 ∧ k_ ≠ gb305) (.slice (some ad304) t290.length co9) t290) ∧ zaa (Kd.S (Kd.slice 32 k32) 33 w' w.heap.size (fun k_ => k_ ≠ gb305) v6 x6_3) ∧ zaa (Kd.V k32 32 w' w.heap.size (fun k_ => some k_ ≠ (v6 : Value).ownBlock ∧ k_ ≠ gb289 ∧ k_ ≠ gb305) (.slice (some ad304) t290.length co9) t290) ∧ zaa (Kd.V k32 32 w' w.heap.size (fun k_ => some k_ ≠ (v6 : Value).ownBlock ∧ k_ ≠ gb289 ∧ k_ ≠ gb305) (.slice A31 y306.length c31) y306) ∧ zaa (w'.heap[gb289]? = some (.cells #[.int .i64 a0_0, (.slice A0_1 l0_1.length c0_1)] 66 (0, 0))) ∧ zaa (w'.heap[gb305]? = some (.cells #[.int .i64 ((zta t290 x31_2).f0), .int .i64 ((zta t290 x31_2).f1), .int .i64 ((zta t290 x31_2).f2)] 32 (0, 0))) ∧ zaa (Below w.heap.size w w'))
                 case atStart => exact ⟨(x6_2), (0), (by first | rfl | (simp; done) | (simp [*]; done)), H', ⟨Nat.le_refl _⟩, ⟨by (with_reducible repeat (first | apply Kd.zza | apply Kd.zya | apply Kd.zib)); exact HO_5.out⟩, ⟨by (with_reducible repeat (first | apply Kd.S_alloc | apply Kd.S_drewN | apply Kd.S_drew)); exact HO_6.out⟩, ⟨by (with_reducible repeat (first | apply Kd.zza | apply Kd.zya | apply Kd.zib)); exact HO_29.out⟩, ⟨by (with_reducible repeat (first | apply Kd.zza | apply Kd.zya | apply Kd.zib)); exact HO310.out⟩, ⟨by (with_reducible repeat (first | refine zga ?_ _ | refine zha ?_ | refine zfa ?_ _)); exact BK289.out⟩, ⟨by (with_reducible repeat (first | refine zga ?_ _ | refine zha ?_ | refine zfa ?_ _)); exact BK305.out⟩, ⟨by repeat (first | (with_reducible first | exact HB.out | apply zda | apply zba | apply zca | refine zea ?_ GE289.out | refine zea ?_ GE305.out) | exact HB.out)⟩⟩
                 case round =>
                  clear H'
                  try clear c1
                  try clear c2
                  try clear p2
                  try clear q2
                  try clear hx2
                  try clear c3
                  try clear p3
                  try clear q3
                  try clear hx3
                  try clear c4
                  try clear p6
                  try clear c7
                  try clear c10
                  try clear c10b0
                  try clear c11
                  try clear c11b0
                  try clear c12
                  try clear c12b0
                  try clear c13
                  try clear c15
                  try clear c21
                  try clear c21b0
                  try clear c22
                  try clear c22b0
                  try clear c23
                  try clear c23b0
                  try clear c25
                  try clear c25b0
                  try clear c25b1
                  try clear c26
                  try clear c26b0
                  try clear c26b1
                  try clear c28
                  try clear p29
                  try clear q29
                  try clear hx29
                  try clear p30
                  try clear q30
                  try clear hx30
                  try clear c31
                  try clear q31
                  try clear hcz16_0
                  try clear hcz16_1
                  try clear hcz16_2
                  try clear hcz29_0
                  try clear hcz29_1
                  try clear hcz29_2
                  try clear hcz5_0
                  try clear hcz5_1
                  try clear hfz16_0
                  try clear hfz16_1
                  try clear hfz16_2
                  try clear hfz29_0
                  try clear hfz29_1
                  try clear hfz29_2
                  try clear hfz5_0
                  try clear hfz5_1
                  try clear hx296_0
                  try clear hx296_1
                  try clear hx296_2
                  try clear hx304_0
                  try clear hx304_1
                  try clear hx304_2
                  try clear p2
                  try clear p296
                  try clear p304
                  try clear p6
                  try clear q031
                  try clear q2
                  try clear q296
                  try clear q304
                  try clear q31
                  obtain ⟨x6_3, x41_3, rfl, HA, HK3, HO_5, HO_6, HO_29, HO_39, BK289, BK305, HB⟩ := hrel
                  cases gk with
                  | zero => exact absurd HA.out (by simp [zhb.l2])
                  | succ k3 =>
                   have H := HA.out
                   clear HA
                   simp only [zhb.l2] at H
                   by_cases c32 : x41_3 < (y306.length : Int)
                   · rw [if_pos c32] at H
                     have c32b0 : decide (x41_3 < (y306.length : Int)) = true := decide_eq_true c32
                     clear c32
                     by_cases c33 : 0 ≤ x41_3
                     · rw [if_pos c33] at H
                       have c33b0 : decide (0 ≤ x41_3) = true := decide_eq_true c33
                       clear c33
                       by_cases c34 : x41_3 < (y306.length : Int)
                       · rw [if_pos c34] at H
                         have c34b0 : decide (x41_3 < (y306.length : Int)) = true := decide_eq_true c34
                         clear c34
                         by_cases c35 : ((zta t290 x31_2).f0) < ((zta y306 x41_3).f0)
                         · rw [if_pos c35] at H
                           have c35b0 : decide (((zta t290 x31_2).f0) < ((zta y306 x41_3).f0)) = true := decide_eq_true c35
                           clear c35
                           obtain ⟨y313, hy313⟩ : ∃ y_ : List (S32), y_ = (([(⟨((zta t290 x31_2).f0), ((zta t290 x31_2).f1), ((zta t290 x31_2).f2)⟩ : S32), (⟨(zta y306 x41_3).f0, (zta y306 x41_3).f1, (zta y306 x41_3).f2⟩ : S32)] : List (S32))) := ⟨_, rfl⟩
                           replace H : (if x6_3.length < 5864062014805 then (zhb.l2 k3 t290 (x6_3 ++ [y313]) t290 (t290.length : Int) x31_2 y306 (y306.length : Int) (wrap64 (x41_3 + 1)) ((zta t290 x31_2).f0) ((zta t290 x31_2).f1) ((zta t290 x31_2).f2)) else (none)) = some r := by first | (rw [hy313]; with_reducible exact H) | (have H2_ := (Option.bind_some _ _).symm.trans H; rw [hy313]; with_reducible exact H2_) | (have H2_ := (Option.bind_some _ _).symm.trans H; with_reducible exact H2_) | with_reducible exact H | (rw [hy313]; exact H) | exact H
                           have Ny313 := zaa.mk hy313
                           clear hy313
                           by_cases c36 : x6_3.length < 5864062014805
                           · rw [if_pos c36] at H
                             have LMc36 := zaa.mk c36
                             clear c36
                             obtain ⟨y316, hy316⟩ : ∃ y_ : List (List (S32)), y_ = (x6_3 ++ [y313]) := ⟨_, rfl⟩
                             replace H : (zhb.l2 k3 t290 y316 t290 (t290.length : Int) x31_2 y306 (y306.length : Int) (wrap64 (x41_3 + 1)) ((zta t290 x31_2).f0) ((zta t290 x31_2).f1) ((zta t290 x31_2).f2)) = some r := by first | (rw [hy316]; with_reducible exact H) | (have H2_ := (Option.bind_some _ _).symm.trans H; rw [hy316]; with_reducible exact H2_) | (have H2_ := (Option.bind_some _ _).symm.trans H; with_reducible exact H2_) | with_reducible exact H | (rw [hy316]; exact H) | exact H
                             have Ny316 := zaa.mk hy316
                             clear hy316
                             have H' := zaa.mk H
                             clear H
                             have p311 : 0 ≤ (x41_3 : Int) := of_decide_eq_true (by first | (with_reducible assumption) | assumption)
                             have q311 : x41_3 < (y306.length : Int) := of_decide_eq_true (by first | (with_reducible assumption) | assumption)
                             obtain ⟨ad311, e311, hx311_0, hx311_1, hx311_2⟩ := at_T32 (Kd.zwd HO_39.out).2.2 x41_3 p311 q311
                             cases e311
                             replace p311 := eq_true p311
                             replace q311 := eq_true q311
                             go_wp2_with (first | ((with_reducible refine zbb (N := 12) rfl ?_); refine zob ?hg (N := 12) ?hd (cs := #[.int .i64 0, .int .i64 0, .int .i64 0]) (t := 32) ?hr ?_; (case hd => rfl); (case hg => rfl); (case hr => first | (go_simp; done) | (go_simp; rfl)); intro gb312 hg w37 hbox hb; replace HO_5 := zaa.mk (Kd.zqc (Kd.zld (by (with_reducible repeat (first | apply Kd.zza | apply Kd.zya | apply Kd.zib)); exact HO_5.out) gb312 (Nat.le_of_eq hg.symm)) hb); replace HO_6 := zaa.mk (Kd.S_below (Kd.S_elderB (by (with_reducible repeat (first | apply Kd.S_alloc | apply Kd.S_drewN | apply Kd.S_drew)); exact HO_6.out) gb312 (Nat.le_of_eq hg.symm)) hb); replace HO_29 := zaa.mk (Kd.zqc (Kd.zld (by (with_reducible repeat (first | apply Kd.zza | apply Kd.zya | apply Kd.zib)); exact HO_29.out) gb312 (Nat.le_of_eq hg.symm)) hb); replace HO_39 := zaa.mk (Kd.zqc (Kd.zld (by (with_reducible repeat (first | apply Kd.zza | apply Kd.zya | apply Kd.zib)); exact HO_39.out) gb312 (Nat.le_of_eq hg.symm)) hb); have BK312 := zaa.mk (hbox); have GW312 := zaa.mk ((by rw [hg]; exact (zja (by repeat (first | (with_reducible first | exact HB.out | apply zda | apply zba | apply zca | refine zea ?_ GE289.out | refine zea ?_ GE305.out) | exact HB.out))) : w.heap.size ≤ gb312)); have GE312 := zaa.mk ((by rw [hg]; exact (zja (by repeat (first | (with_reducible first | exact HB.out | apply zda | apply zba | apply zca | refine zea ?_ GE289.out | refine zea ?_ GE305.out) | exact HB.out))) : w.heap.size ≤ gb312)); replace HB := zaa.mk (zma (by repeat (first | (with_reducible first | exact HB.out | apply zda | apply zba | apply zca | refine zea ?_ GE289.out | refine zea ?_ GE305.out) | exact HB.out)) hb); have NB289_312 := zaa.mk ((by rw [hg]; exact Nat.ne_of_lt (zbc (g := gb289) (o := .cells #[.int .i64 a0_0, .slice A0_1 l0_1.length c0_1] 66 (0, 0)) (by (with_reducible repeat (first | refine zga ?_ _ | refine zha ?_ | refine zfa ?_ _)); exact BK289.out)) : gb289 ≠ gb312)); have NB312_289 := zaa.mk ((by rw [hg]; exact Nat.ne_of_gt (zbc (g := gb289) (o := .cells #[.int .i64 a0_0, .slice A0_1 l0_1.length c0_1] 66 (0, 0)) (by (with_reducible repeat (first | refine zga ?_ _ | refine zha ?_ | refine zfa ?_ _)); exact BK289.out)) : gb312 ≠ gb289)); replace BK289 := zaa.mk (zna (g := gb289) (o := .cells #[.int .i64 a0_0, .slice A0_1 l0_1.length c0_1] 66 (0, 0)) (by (with_reducible repeat (first | refine zga ?_ _ | refine zha ?_ | refine zfa ?_ _)); exact BK289.out) hb); have NB305_312 := zaa.mk ((by rw [hg]; exact Nat.ne_of_lt (zbc (g := gb305) (o := .cells #[.int .i64 ((zta t290 x31_2).f0), .int .i64 ((zta t290 x31_2).f1), .int .i64 ((zta t290 x31_2).f2)] 32 (0, 0)) (by (with_reducible repeat (first | refine zga ?_ _ | refine zha ?_ | refine zfa ?_ _)); exact BK305.out)) : gb305 ≠ gb312)); have NB312_305 := zaa.mk ((by rw [hg]; exact Nat.ne_of_gt (zbc (g := gb305) (o := .cells #[.int .i64 ((zta t290 x31_2).f0), .int .i64 ((zta t290 x31_2).f1), .int .i64 ((zta t290 x31_2).f2)] 32 (0, 0)) (by (with_reducible repeat (first | refine zga ?_ _ | refine zha ?_ | refine zfa ?_ _)); exact BK305.out)) : gb312 ≠ gb305)); replace BK305 := zaa.mk (zna (g := gb305) (o := .cells #[.int .i64 ((zta t290 x31_2).f0), .int .i64 ((zta t290 x31_2).f1), .int .i64 ((zta t290 x31_2).f2)] 32 (0, 0)) (by (with_reducible repeat (first | refine zga ?_ _ | refine zha ?_ | refine zfa ?_ _)); exact BK305.out) hb); clear hb hbox hg; have hnb38 := NB312_289.out; have hnc38 := NB289_312.out; have hnb39 := NB312_305.out; have hnc39 := NB305_312.out; have hcz40_0 : w37.cell? ⟨gb312, 0, none⟩ = some (.int .i64 0) := (zla BK312.out 0).trans rfl; have hcz40_1 : w37.cell? ⟨gb312, 1, none⟩ = some (.int .i64 0) := (zla BK312.out 1).trans rfl; have hcz40_2 : w37.cell? ⟨gb312, 2, none⟩ = some (.int .i64 0) := (zla BK312.out 2).trans rfl; have hfz40_0 := zka BK312.out 0; have hfz40_1 := zka BK312.out 1; have hfz40_2 := zka BK312.out 2; have hnb41 := NB305_289.out; have hnc41 := NB289_305.out; have hcz42_0 : w37.cell? ⟨gb305, 0, none⟩ = some (.int .i64 ((zta t290 x31_2).f0)) := (zla BK305.out 0).trans rfl; have hcz42_1 : w37.cell? ⟨gb305, 1, none⟩ = some (.int .i64 ((zta t290 x31_2).f1)) := (zla BK305.out 1).trans rfl; have hcz42_2 : w37.cell? ⟨gb305, 2, none⟩ = some (.int .i64 ((zta t290 x31_2).f2)) := (zla BK305.out 2).trans rfl; have hfz42_0 := zka BK305.out 0; have hfz42_1 := zka BK305.out 1; have hfz42_2 := zka BK305.out 2) | ((with_reducible refine zbb (N := 53) rfl ?_); refine Kd.R_lit k32 _ 32 ?hg (N := 53) ?hd (xs := ([(⟨((zta t290 x31_2).f0), ((zta t290 x31_2).f1), ((zta t290 x31_2).f2)⟩ : S32), (⟨(zta y306 x41_3).f0, (zta y306 x41_3).f1, (zta y306 x41_3).f2⟩ : S32)] : List (S32))) (inner := [.int .i64 ((zta t290 x31_2).f0), .int .i64 ((zta t290 x31_2).f1), .int .i64 ((zta t290 x31_2).f2), .int .i64 ((zta y306 x41_3).f0), .int .i64 ((zta y306 x41_3).f1), .int .i64 ((zta y306 x41_3).f2)]) (ok := fun _ => True) (okp := fun _ => True) ?hr ?hp (fun _ hk => hk) trivial (Below.refl _ _) (Nat.le_refl _) (by simp) ?_; (case hd => rfl); (case hg => rfl); (case hr => first | (go_simp; done) | (go_simp; rfl)); (case hp => exact (Reps.c3 (show Kd.M k32 _ _ _ (⟨((zta t290 x31_2).f0), ((zta t290 x31_2).f1), ((zta t290 x31_2).f2)⟩ : S32) [.int .i64 ((zta t290 x31_2).f0), .int .i64 ((zta t290 x31_2).f1), .int .i64 ((zta t290 x31_2).f2)] from (k32_mkM _ _ _ (⟨((zta t290 x31_2).f0), ((zta t290 x31_2).f1), ((zta t290 x31_2).f2)⟩ : S32) )) (Reps.c3 (show Kd.M k32 _ _ _ (⟨(zta y306 x41_3).f0, (zta y306 x41_3).f1, (zta y306 x41_3).f2⟩ : S32) [.int .i64 ((zta y306 x41_3).f0), .int .i64 ((zta y306 x41_3).f1), .int .i64 ((zta y306 x41_3).f2)] from (k32_mkM _ _ _ (⟨(zta y306 x41_3).f0, (zta y306 x41_3).f1, (zta y306 x41_3).f2⟩ : S32) )) (Reps.none _ _)))); intro v314 w43 ho44 hb hg_ hnew_; clear hg_ hnew_; (first | rw [← Ny313.out] at ho44 | (simp only [Int.reduceToNat] at ho44; rw [← Ny313.out] at ho44)); replace HO_5 := zaa.mk (Kd.V_elder' (by (with_reducible repeat (first | apply Kd.zza | apply Kd.zya | apply Kd.zib)); exact (Kd.zcc (Kd.zbe (p := ⟨gb312, 2, none⟩) (Kd.zbe (p := ⟨gb312, 1, none⟩) (Kd.zbe (p := ⟨gb312, 0, none⟩) (Kd.zcc HO_5.out (fun k_ hk => (⟨hk, hk.2⟩ : _ ∧ k_ ≠ gb312))) (fun _ hk => hk.2) (.int .i64 ((zta y306 x41_3).f0))) (fun _ hk => hk.2) (.int .i64 ((zta y306 x41_3).f1))) (fun _ hk => hk.2) (.int .i64 ((zta y306 x41_3).f2))) (fun _ h_ => h_.1))) (Kd.zxd ho44) hb); replace HO_6 := zaa.mk (Kd.S_elder' (by (with_reducible repeat (first | apply Kd.S_alloc | apply Kd.S_drewN | apply Kd.S_drew)); exact (Kd.S_mono (Kd.S_far (p := ⟨gb312, 2, none⟩) (Kd.S_far (p := ⟨gb312, 1, none⟩) (Kd.S_far (p := ⟨gb312, 0, none⟩) (Kd.S_mono HO_6.out (fun k_ hk => (⟨hk, hk.2⟩ : _ ∧ k_ ≠ gb312))) (fun _ hk => hk.2) (.int .i64 ((zta y306 x41_3).f0))) (fun _ hk => hk.2) (.int .i64 ((zta y306 x41_3).f1))) (fun _ hk => hk.2) (.int .i64 ((zta y306 x41_3).f2))) (fun _ h_ => h_.1))) (Kd.zxd ho44) hb); replace HO_29 := zaa.mk (Kd.V_elder' (by (with_reducible repeat (first | apply Kd.zza | apply Kd.zya | apply Kd.zib)); exact (Kd.zcc (Kd.zbe (p := ⟨gb312, 2, none⟩) (Kd.zbe (p := ⟨gb312, 1, none⟩) (Kd.zbe (p := ⟨gb312, 0, none⟩) (Kd.zcc HO_29.out (fun k_ hk => (⟨hk, hk.2⟩ : _ ∧ k_ ≠ gb312))) (fun _ hk => hk.2) (.int .i64 ((zta y306 x41_3).f0))) (fun _ hk => hk.2) (.int .i64 ((zta y306 x41_3).f1))) (fun _ hk => hk.2) (.int .i64 ((zta y306 x41_3).f2))) (fun _ h_ => h_.1))) (Kd.zxd ho44) hb); replace HO_39 := zaa.mk (Kd.V_elder' (by (with_reducible repeat (first | apply Kd.zza | apply Kd.zya | apply Kd.zib)); exact (Kd.zcc (Kd.zbe (p := ⟨gb312, 2, none⟩) (Kd.zbe (p := ⟨gb312, 1, none⟩) (Kd.zbe (p := ⟨gb312, 0, none⟩) (Kd.zcc HO_39.out (fun k_ hk => (⟨hk, hk.2⟩ : _ ∧ k_ ≠ gb312))) (fun _ hk => hk.2) (.int .i64 ((zta y306 x41_3).f0))) (fun _ hk => hk.2) (.int .i64 ((zta y306 x41_3).f1))) (fun _ hk => hk.2) (.int .i64 ((zta y306 x41_3).f2))) (fun _ h_ => h_.1))) (Kd.zxd ho44) hb); have HO315 := zaa.mk (Kd.znd (Kd.R_newB (Kd.R_newB ho44 (g := gb305) (o := .cells #[.int .i64 ((zta t290 x31_2).f0), .int .i64 ((zta t290 x31_2).f1), .int .i64 ((zta t290 x31_2).f2)] 32 (0, 0)) (by (with_reducible repeat (first | refine zga ?_ _ | refine zha ?_ | refine zfa ?_ _)); refine zsc ?_ NB305_312.out _; (with_reducible repeat (first | refine zga ?_ _ | refine zha ?_ | refine zfa ?_ _)); refine zsc ?_ NB305_312.out _; (with_reducible repeat (first | refine zga ?_ _ | refine zha ?_ | refine zfa ?_ _)); refine zsc ?_ NB305_312.out _; (with_reducible repeat (first | refine zga ?_ _ | refine zha ?_ | refine zfa ?_ _)); exact BK305.out)) (g := gb312) (o := .cells #[.int .i64 ((zta y306 x41_3).f0), .int .i64 ((zta y306 x41_3).f1), .int .i64 ((zta y306 x41_3).f2)] 32 (0, 0)) (by (with_reducible repeat (first | refine zga ?_ _ | refine zha ?_ | refine zfa ?_ _)); refine zzc (cs := #[.int .i64 ((zta y306 x41_3).f0), .int .i64 ((zta y306 x41_3).f1), .int .i64 0]) ?_ 2 _ rfl; (with_reducible repeat (first | refine zga ?_ _ | refine zha ?_ | refine zfa ?_ _)); refine zzc (cs := #[.int .i64 ((zta y306 x41_3).f0), .int .i64 0, .int .i64 0]) ?_ 1 _ rfl; (with_reducible repeat (first | refine zga ?_ _ | refine zha ?_ | refine zfa ?_ _)); refine zzc (cs := #[.int .i64 0, .int .i64 0, .int .i64 0]) ?_ 0 _ rfl; (with_reducible repeat (first | refine zga ?_ _ | refine zha ?_ | refine zfa ?_ _)); exact BK312.out)) (zja (by repeat (first | (with_reducible first | exact HB.out | apply zda | apply zba | apply zca | refine zea ?_ GE289.out | refine zea ?_ GE305.out | refine zea ?_ GE312.out) | exact HB.out)))); replace BK289 := zaa.mk (zna (g := gb289) (o := .cells #[.int .i64 a0_0, .slice A0_1 l0_1.length c0_1] 66 (0, 0)) (by (with_reducible repeat (first | refine zga ?_ _ | refine zha ?_ | refine zfa ?_ _)); refine zsc ?_ NB289_312.out _; (with_reducible repeat (first | refine zga ?_ _ | refine zha ?_ | refine zfa ?_ _)); refine zsc ?_ NB289_312.out _; (with_reducible repeat (first | refine zga ?_ _ | refine zha ?_ | refine zfa ?_ _)); refine zsc ?_ NB289_312.out _; (with_reducible repeat (first | refine zga ?_ _ | refine zha ?_ | refine zfa ?_ _)); exact BK289.out) hb); replace BK305 := zaa.mk (zna (g := gb305) (o := .cells #[.int .i64 ((zta t290 x31_2).f0), .int .i64 ((zta t290 x31_2).f1), .int .i64 ((zta t290 x31_2).f2)] 32 (0, 0)) (by (with_reducible repeat (first | refine zga ?_ _ | refine zha ?_ | refine zfa ?_ _)); refine zsc ?_ NB305_312.out _; (with_reducible repeat (first | refine zga ?_ _ | refine zha ?_ | refine zfa ?_ _)); refine zsc ?_ NB305_312.out _; (with_reducible repeat (first | refine zga ?_ _ | refine zha ?_ | refine zfa ?_ _)); refine zsc ?_ NB305_312.out _; (with_reducible repeat (first | refine zga ?_ _ | refine zha ?_ | refine zfa ?_ _)); exact BK305.out) hb); replace BK312 := zaa.mk (zna (g := gb312) (o := .cells #[.int .i64 ((zta y306 x41_3).f0), .int .i64 ((zta y306 x41_3).f1), .int .i64 ((zta y306 x41_3).f2)] 32 (0, 0)) (by (with_reducible repeat (first | refine zga ?_ _ | refine zha ?_ | refine zfa ?_ _)); refine zzc (cs := #[.int .i64 ((zta y306 x41_3).f0), .int .i64 ((zta y306 x41_3).f1), .int .i64 0]) ?_ 2 _ rfl; (with_reducible repeat (first | refine zga ?_ _ | refine zha ?_ | refine zfa ?_ _)); refine zzc (cs := #[.int .i64 ((zta y306 x41_3).f0), .int .i64 0, .int .i64 0]) ?_ 1 _ rfl; (with_reducible repeat (first | refine zga ?_ _ | refine zha ?_ | refine zfa ?_ _)); refine zzc (cs := #[.int .i64 0, .int .i64 0, .int .i64 0]) ?_ 0 _ rfl; (with_reducible repeat (first | refine zga ?_ _ | refine zha ?_ | refine zfa ?_ _)); exact BK312.out) hb); replace HB := zaa.mk (zma (by repeat (first | (with_reducible first | exact HB.out | apply zda | apply zba | apply zca | refine zea ?_ GE289.out | refine zea ?_ GE305.out | refine zea ?_ GE312.out) | exact HB.out)) hb); clear hb ho44; obtain ⟨Ao46, co46, eo46⟩ := Kd.zfd HO315.out; subst eo46) | ((with_reducible refine gate_builtin (b := .append) (xs := #[.tmp 50, .tmp 54]) rfl ?_); at_builtin; refine Kd.S_append (Kd.slice 32 k32) (w0 := w) w.heap.size rfl (.tmp 50) (.tmp 54) 87 33 (.slice none 0 0) 24 rfl Tryz.underlying87 info33 rfl (by decide) (by omega) u6 x6_3 y313 [.slice Ao46 y313.length co46] (fun k_ => k_ ≠ gb305 ∧ k_ ≠ gb312) (fun k_ => some k_ = (.slice Ao46 y313.length co46 : Value).ownBlock) rfl rfl ?aP (fun k_ hk_ => ((Kd.zsd (ok' := fun k_ => ((fun k_ => k_ ≠ gb305 ∧ k_ ≠ gb312)) k_ ∧ some k_ ≠ (u6 : Value).ownBlock) (Kd.zfc (HO315.out) (Kd.S_typed HO_6.out) (by decide)) (fun k_ hk => ⟨⟨hk.1.1.2, hk.1.2⟩, hk.2⟩))).1 k_ hk_.symm) ?aF ?aO ?aB ?aS ?aL ?_; (case aP => exact Kd.M_row (Kd.zsd (Kd.R_tight rfl (Kd.zsd (ok' := fun k_ => ((fun k_ => k_ ≠ gb305 ∧ k_ ≠ gb312)) k_ ∧ some k_ ≠ (u6 : Value).ownBlock) (Kd.zfc (HO315.out) (Kd.S_typed HO_6.out) (by decide)) (fun k_ hk => ⟨⟨hk.1.1.2, hk.1.2⟩, hk.2⟩))) (fun _ h_ => h_))); (case aB => exact (by repeat (first | (with_reducible first | exact HB.out | apply zda | apply zba | apply zca | refine zea ?_ GE289.out | refine zea ?_ GE305.out | refine zea ?_ GE312.out) | exact HB.out))); (case aF => exact (fun k_ hk => ⟨Kd.freshB (g := gb305) (o := .cells #[.int .i64 ((zta t290 x31_2).f0), .int .i64 ((zta t290 x31_2).f1), .int .i64 ((zta t290 x31_2).f2)] 32 (0, 0)) (by (with_reducible repeat (first | refine zga ?_ _ | refine zha ?_ | refine zfa ?_ _)); exact BK305.out) k_ hk, Kd.freshB (g := gb312) (o := .cells #[.int .i64 ((zta y306 x41_3).f0), .int .i64 ((zta y306 x41_3).f1), .int .i64 ((zta y306 x41_3).f2)] 32 (0, 0)) (by (with_reducible repeat (first | refine zga ?_ _ | refine zha ?_ | refine zfa ?_ _)); exact BK312.out) k_ hk⟩)); (case aO => exact (by (with_reducible repeat (first | apply Kd.S_alloc | apply Kd.S_drewN | apply Kd.S_drew)); exact Kd.S_mono HO_6.out (fun k_ hk => ⟨⟨hk.1.1, hk.1.2⟩, fun e_ => hk.2 e_⟩))); (case aS => exact (zja (by repeat (first | (with_reducible first | exact HB.out | apply zda | apply zba | apply zca | refine zea ?_ GE289.out | refine zea ?_ GE305.out | refine zea ?_ GE312.out) | exact HB.out)))); (case aL => have := LMc36.out; omega); intro v317 w45 ho hb hg hat; rw [← Ny316.out] at ho; replace HO_5 := zaa.mk (Kd.V_afterv (ok := (fun k_ => some k_ ≠ (.slice Ao46 y313.length co46 : Value).ownBlock ∧ k_ ≠ gb289 ∧ k_ ≠ gb305 ∧ k_ ≠ gb312)) (by (with_reducible repeat (first | apply Kd.zza | apply Kd.zya | apply Kd.zib)); exact Kd.zcc HO_5.out (fun _ hk => ⟨⟨hk.2, ⟨hk.1.1.2.1, ⟨hk.1.1.2.2, hk.1.2⟩⟩⟩, hk.1.1.1⟩)) hg hat); replace HO_29 := zaa.mk (Kd.V_afterv (ok := (fun k_ => some k_ ≠ (.slice Ao46 y313.length co46 : Value).ownBlock ∧ k_ ≠ gb289 ∧ k_ ≠ gb305 ∧ k_ ≠ gb312)) (by (with_reducible repeat (first | apply Kd.zza | apply Kd.zya | apply Kd.zib)); exact Kd.zcc HO_29.out (fun _ hk => ⟨⟨hk.2, ⟨hk.1.1.2.1, ⟨hk.1.1.2.2, hk.1.2⟩⟩⟩, hk.1.1.1⟩)) hg hat); replace HO_39 := zaa.mk (Kd.V_afterv (ok := (fun k_ => some k_ ≠ (.slice Ao46 y313.length co46 : Value).ownBlock ∧ k_ ≠ gb289 ∧ k_ ≠ gb305 ∧ k_ ≠ gb312)) (by (with_reducible repeat (first | apply Kd.zza | apply Kd.zya | apply Kd.zib)); exact Kd.zcc HO_39.out (fun _ hk => ⟨⟨hk.2, ⟨hk.1.1.2.1, ⟨hk.1.1.2.2, hk.1.2⟩⟩⟩, hk.1.1.1⟩)) hg hat); replace BK289 := zaa.mk (blk_grown (g := gb289) (o := .cells #[.int .i64 a0_0, .slice A0_1 l0_1.length c0_1] 66 (0, 0)) (by (with_reducible repeat (first | refine zga ?_ _ | refine zha ?_ | refine zfa ?_ _)); exact BK289.out) hg (Kd.S_ne HO_6.out BK289.out (by decide))); replace BK305 := zaa.mk (blk_grown (g := gb305) (o := .cells #[.int .i64 ((zta t290 x31_2).f0), .int .i64 ((zta t290 x31_2).f1), .int .i64 ((zta t290 x31_2).f2)] 32 (0, 0)) (by (with_reducible repeat (first | refine zga ?_ _ | refine zha ?_ | refine zfa ?_ _)); exact BK305.out) hg (Kd.S_ne HO_6.out BK305.out (by decide))); replace BK312 := zaa.mk (blk_grown (g := gb312) (o := .cells #[.int .i64 ((zta y306 x41_3).f0), .int .i64 ((zta y306 x41_3).f1), .int .i64 ((zta y306 x41_3).f2)] 32 (0, 0)) (by (with_reducible repeat (first | refine zga ?_ _ | refine zha ?_ | refine zfa ?_ _)); exact BK312.out) hg (Kd.S_ne HO_6.out BK312.out (by decide))); replace HB := zaa.mk (hb); have HO318 := zaa.mk (ho); clear HO_6; clear HO315; clear ho hb hg hat))
                             go_roundg k3
                             case measure => have := HK1.out; have := HK2.out; have := HK3.out; omega
                             case rel => exact ⟨(y316), (wrap64 (x41_3 + 1)), (by first | rfl | (simp; done) | (simp [*]; done)), H', ⟨by have := HK1.out; have := HK2.out; have := HK3.out; omega⟩, ⟨by (with_reducible repeat (first | apply Kd.zza | apply Kd.zya | apply Kd.zib)); exact Kd.zcc HO_5.out (fun _ hk => ⟨hk.2, ⟨hk.1.2.1, hk.1.2.2.1⟩⟩)⟩, ⟨by (with_reducible repeat (first | apply Kd.S_alloc | apply Kd.S_drewN | apply Kd.S_drew)); exact Kd.S_mono HO318.out (fun _ hk => hk.1)⟩, ⟨by (with_reducible repeat (first | apply Kd.zza | apply Kd.zya | apply Kd.zib)); exact Kd.zcc HO_29.out (fun _ hk => ⟨hk.2, ⟨hk.1.2.1, hk.1.2.2.1⟩⟩)⟩, ⟨by (with_reducible repeat (first | apply Kd.zza | apply Kd.zya | apply Kd.zib)); exact Kd.zcc HO_39.out (fun _ hk => ⟨hk.2, ⟨hk.1.2.1, hk.1.2.2.1⟩⟩)⟩, ⟨by (with_reducible repeat (first | refine zga ?_ _ | refine zha ?_ | refine zfa ?_ _)); exact BK289.out⟩, ⟨by (with_reducible repeat (first | refine zga ?_ _ | refine zha ?_ | refine zfa ?_ _)); exact BK305.out⟩, ⟨by repeat (first | (with_reducible first | exact HB.out | apply zda | apply zba | apply zca | refine zea ?_ GE289.out | refine zea ?_ GE305.out | refine zea ?_ GE312.out) | exact HB.out)⟩⟩
                           · rw [if_neg c36] at H
                             exact absurd H (by simp)
                         · rw [if_neg c35] at H
                           have c35b0 : decide (((zta t290 x31_2).f0) < ((zta y306 x41_3).f0)) = false := decide_eq_false c35
                           clear c35
                           have H' := zaa.mk H
                           clear H
                           have p311 : 0 ≤ (x41_3 : Int) := of_decide_eq_true (by first | (with_reducible assumption) | assumption)
                           have q311 : x41_3 < (y306.length : Int) := of_decide_eq_true (by first | (with_reducible assumption) | assumption)
                           obtain ⟨ad311, e311, hx311_0, hx311_1, hx311_2⟩ := at_T32 (Kd.zwd HO_39.out).2.2 x41_3 p311 q311
                           cases e311
                           replace p311 := eq_true p311
                           replace q311 := eq_true q311
                           go_wp2_with (first | ((with_reducible refine zbb (N := 12) rfl ?_); refine zob ?hg (N := 12) ?hd (cs := #[.int .i64 0, .int .i64 0, .int .i64 0]) (t := 32) ?hr ?_; (case hd => rfl); (case hg => rfl); (case hr => first | (go_simp; done) | (go_simp; rfl)); intro gb312 hg w47 hbox hb; replace HO_5 := zaa.mk (Kd.zqc (Kd.zld (by (with_reducible repeat (first | apply Kd.zza | apply Kd.zya | apply Kd.zib)); exact HO_5.out) gb312 (Nat.le_of_eq hg.symm)) hb); replace HO_6 := zaa.mk (Kd.S_below (Kd.S_elderB (by (with_reducible repeat (first | apply Kd.S_alloc | apply Kd.S_drewN | apply Kd.S_drew)); exact HO_6.out) gb312 (Nat.le_of_eq hg.symm)) hb); replace HO_29 := zaa.mk (Kd.zqc (Kd.zld (by (with_reducible repeat (first | apply Kd.zza | apply Kd.zya | apply Kd.zib)); exact HO_29.out) gb312 (Nat.le_of_eq hg.symm)) hb); replace HO_39 := zaa.mk (Kd.zqc (Kd.zld (by (with_reducible repeat (first | apply Kd.zza | apply Kd.zya | apply Kd.zib)); exact HO_39.out) gb312 (Nat.le_of_eq hg.symm)) hb); have BK312 := zaa.mk (hbox); have GW312 := zaa.mk ((by rw [hg]; exact (zja (by repeat (first | (with_reducible first | exact HB.out | apply zda | apply zba | apply zca | refine zea ?_ GE289.out | refine zea ?_ GE305.out) | exact HB.out))) : w.heap.size ≤ gb312)); have GE312 := zaa.mk ((by rw [hg]; exact (zja (by repeat (first | (with_reducible first | exact HB.out | apply zda | apply zba | apply zca | refine zea ?_ GE289.out | refine zea ?_ GE305.out) | exact HB.out))) : w.heap.size ≤ gb312)); replace HB := zaa.mk (zma (by repeat (first | (with_reducible first | exact HB.out | apply zda | apply zba | apply zca | refine zea ?_ GE289.out | refine zea ?_ GE305.out) | exact HB.out)) hb); have NB289_312 := zaa.mk ((by rw [hg]; exact Nat.ne_of_lt (zbc (g := gb289) (o := .cells #[.int .i64 a0_0, .slice A0_1 l0_1.length c0_1] 66 (0, 0)) (by (with_reducible repeat (first | refine zga ?_ _ | refine zha ?_ | refine zfa ?_ _)); exact BK289.out)) : gb289 ≠ gb312)); have NB312_289 := zaa.mk ((by rw [hg]; exact Nat.ne_of_gt (zbc (g := gb289) (o := .cells #[.int .i64 a0_0, .slice A0_1 l0_1.length c0_1] 66 (0, 0)) (by (with_reducible repeat (first | refine zga ?_ _ | refine zha ?_ | refine zfa ?_ _)); exact BK289.out)) : gb312 ≠ gb289)); replace BK289 := zaa.mk (zna (g := gb289) (o := .cells #[.int .i64 a0_0, .slice A0_1 l0_1.length c0_1] 66 (0, 0)) (by (with_reducible repeat (first | refine zga ?_ _ | refine zha ?_ | refine zfa ?_ _)); exact BK289.out) hb); have NB305_312 := zaa.mk ((by rw [hg]; exact Nat.ne_of_lt (zbc (g := gb305) (o := .cells #[.int .i64 ((zta t290 x31_2).f0), .int .i64 ((zta t290 x31_2).f1), .int .i64 ((zta t290 x31_2).f2)] 32 (0, 0)) (by (with_reducible repeat (first | refine zga ?_ _ | refine zha ?_ | refine zfa ?_ _)); exact BK305.out)) : gb305 ≠ gb312)); have NB312_305 := zaa.mk ((by rw [hg]; exact Nat.ne_of_gt (zbc (g := gb305) (o := .cells #[.int .i64 ((zta t290 x31_2).f0), .int .i64 ((zta t290 x31_2).f1), .int .i64 ((zta t290 x31_2).f2)] 32 (0, 0)) (by (with_reducible repeat (first | refine zga ?_ _ | refine zha ?_ | refine zfa ?_ _)); exact BK305.out)) : gb312 ≠ gb305)); replace BK305 := zaa.mk (zna (g := gb305) (o := .cells #[.int .i64 ((zta t290 x31_2).f0), .int .i64 ((zta t290 x31_2).f1), .int .i64 ((zta t290 x31_2).f2)] 32 (0, 0)) (by (with_reducible repeat (first | refine zga ?_ _ | refine zha ?_ | refine zfa ?_ _)); exact BK305.out) hb); clear hb hbox hg; have hnb48 := NB312_289.out; have hnc48 := NB289_312.out; have hnb49 := NB312_305.out; have hnc49 := NB305_312.out; have hcz50_0 : w47.cell? ⟨gb312, 0, none⟩ = some (.int .i64 0) := (zla BK312.out 0).trans rfl; have hcz50_1 : w47.cell? ⟨gb312, 1, none⟩ = some (.int .i64 0) := (zla BK312.out 1).trans rfl; have hcz50_2 : w47.cell? ⟨gb312, 2, none⟩ = some (.int .i64 0) := (zla BK312.out 2).trans rfl; have hfz50_0 := zka BK312.out 0; have hfz50_1 := zka BK312.out 1; have hfz50_2 := zka BK312.out 2; have hnb51 := NB305_289.out; have hnc51 := NB289_305.out; have hcz52_0 : w47.cell? ⟨gb305, 0, none⟩ = some (.int .i64 ((zta t290 x31_2).f0)) := (zla BK305.out 0).trans rfl; have hcz52_1 : w47.cell? ⟨gb305, 1, none⟩ = some (.int .i64 ((zta t290 x31_2).f1)) := (zla BK305.out 1).trans rfl; have hcz52_2 : w47.cell? ⟨gb305, 2, none⟩ = some (.int .i64 ((zta t290 x31_2).f2)) := (zla BK305.out 2).trans rfl; have hfz52_0 := zka BK305.out 0; have hfz52_1 := zka BK305.out 1; have hfz52_2 := zka BK305.out 2))
                           go_roundg k3
                           case measure => have := HK1.out; have := HK2.out; have := HK3.out; omega
                           case rel => exact ⟨(x6_3), (wrap64 (x41_3 + 1)), (by first | rfl | (simp; done) | (simp [*]; done)), H', ⟨by have := HK1.out; have := HK2.out; have := HK3.out; omega⟩, ⟨by (with_reducible repeat (first | apply Kd.zza | apply Kd.zya | apply Kd.zib)); exact Kd.zcc (Kd.zbe (p := ⟨gb312, 2, none⟩) (Kd.zbe (p := ⟨gb312, 1, none⟩) (Kd.zbe (p := ⟨gb312, 0, none⟩) (Kd.zcc HO_5.out (fun k_ hk => (⟨hk, hk.2⟩ : _ ∧ k_ ≠ gb312))) (fun _ hk => hk.2) (.int .i64 ((zta y306 x41_3).f0))) (fun _ hk => hk.2) (.int .i64 ((zta y306 x41_3).f1))) (fun _ hk => hk.2) (.int .i64 ((zta y306 x41_3).f2))) (fun _ hk => ⟨hk.1.1.1, ⟨hk.1.1.2.1, hk.1.1.2.2⟩⟩)⟩, ⟨by (with_reducible repeat (first | apply Kd.S_alloc | apply Kd.S_drewN | apply Kd.S_drew)); exact Kd.S_mono (Kd.S_far (p := ⟨gb312, 2, none⟩) (Kd.S_far (p := ⟨gb312, 1, none⟩) (Kd.S_far (p := ⟨gb312, 0, none⟩) (Kd.S_mono HO_6.out (fun k_ hk => (⟨hk, hk.2⟩ : _ ∧ k_ ≠ gb312))) (fun _ hk => hk.2) (.int .i64 ((zta y306 x41_3).f0))) (fun _ hk => hk.2) (.int .i64 ((zta y306 x41_3).f1))) (fun _ hk => hk.2) (.int .i64 ((zta y306 x41_3).f2))) (fun _ hk => hk.1.1)⟩, ⟨by (with_reducible repeat (first | apply Kd.zza | apply Kd.zya | apply Kd.zib)); exact Kd.zcc (Kd.zbe (p := ⟨gb312, 2, none⟩) (Kd.zbe (p := ⟨gb312, 1, none⟩) (Kd.zbe (p := ⟨gb312, 0, none⟩) (Kd.zcc HO_29.out (fun k_ hk => (⟨hk, hk.2⟩ : _ ∧ k_ ≠ gb312))) (fun _ hk => hk.2) (.int .i64 ((zta y306 x41_3).f0))) (fun _ hk => hk.2) (.int .i64 ((zta y306 x41_3).f1))) (fun _ hk => hk.2) (.int .i64 ((zta y306 x41_3).f2))) (fun _ hk => ⟨hk.1.1.1, ⟨hk.1.1.2.1, hk.1.1.2.2⟩⟩)⟩, ⟨by (with_reducible repeat (first | apply Kd.zza | apply Kd.zya | apply Kd.zib)); exact Kd.zcc (Kd.zbe (p := ⟨gb312, 2, none⟩) (Kd.zbe (p := ⟨gb312, 1, none⟩) (Kd.zbe (p := ⟨gb312, 0, none⟩) (Kd.zcc HO_39.out (fun k_ hk => (⟨hk, hk.2⟩ : _ ∧ k_ ≠ gb312))) (fun _ hk => hk.2) (.int .i64 ((zta y306 x41_3).f0))) (fun _ hk => hk.2) (.int .i64 ((zta y306 x41_3).f1))) (fun _ hk => hk.2) (.int .i64 ((zta y306 x41_3).f2))) (fun _ hk => ⟨hk.1.1.1, ⟨hk.1.1.2.1, hk.1.1.2.2⟩⟩)⟩, ⟨by (with_reducible repeat (first | refine zga ?_ _ | refine zha ?_ | refine zfa ?_ _)); refine zsc ?_ NB289_312.out _; (with_reducible repeat (first | refine zga ?_ _ | refine zha ?_ | refine zfa ?_ _)); refine zsc ?_ NB289_312.out _; (with_reducible repeat (first | refine zga ?_ _ | refine zha ?_ | refine zfa ?_ _)); refine zsc ?_ NB289_312.out _; (with_reducible repeat (first | refine zga ?_ _ | refine zha ?_ | refine zfa ?_ _)); exact BK289.out⟩, ⟨by (with_reducible repeat (first | refine zga ?_ _ | refine zha ?_ | refine zfa ?_ _)); refine zsc ?_ NB305_312.out _; (with_reducible repeat (first | refine zga ?_ _ | refine zha ?_ | refine zfa ?_ _)); refine zsc ?_ NB305_312.out _; (with_reducible repeat (first | refine zga ?_ _ | refine zha ?_ | refine zfa ?_ _)); refine zsc ?_ NB305_312.out _; (with_reducible repeat (first | refine zga ?_ _ | refine zha ?_ | refine zfa ?_ _)); exact BK305.out⟩, ⟨by repeat (first | (with_reducible first | exact HB.out | apply zda | apply zba | apply zca | refine zea ?_ GE289.out | refine zea ?_ GE305.out | refine zea ?_ GE312.out) | exact HB.out)⟩⟩
                       · rw [if_neg c34] at H
                         exact absurd H (by simp)
                     · rw [if_neg c33] at H
                       exact absurd H (by simp)
                   · rw [if_neg c32] at H
                     have c32b0 : decide (x41_3 < (y306.length : Int)) = false := decide_eq_false c32
                     clear c32
                     have H' := zaa.mk H
                     clear H
                     go_wp2
                     go_roundg k3
                     case measure => have := HK1.out; have := HK2.out; have := HK3.out; omega
                     case rel => exact ⟨(x6_3), (wrap64 (x31_2 + 1)), (by first | rfl | (simp; done) | (simp [*]; done)), H', ⟨by have := HK1.out; have := HK2.out; have := HK3.out; omega⟩, ⟨by (with_reducible repeat (first | apply Kd.zza | apply Kd.zya | apply Kd.zib)); exact Kd.zcc HO_5.out (fun _ hk => ⟨hk.1, hk.2.1⟩)⟩, ⟨by (with_reducible repeat (first | apply Kd.S_alloc | apply Kd.S_drewN | apply Kd.S_drew)); exact Kd.S_mono HO_6.out (fun _ hk => trivial)⟩, ⟨by (with_reducible repeat (first | apply Kd.zza | apply Kd.zya | apply Kd.zib)); exact Kd.zcc HO_29.out (fun _ hk => ⟨hk.1, hk.2.1⟩)⟩, ⟨by (with_reducible repeat (first | refine zga ?_ _ | refine zha ?_ | refine zfa ?_ _)); exact BK289.out⟩, ⟨by repeat (first | (with_reducible first | exact HB.out | apply zda | apply zba | apply zca | refine zea ?_ GE289.out | refine zea ?_ GE305.out) | exact HB.out)⟩⟩
               · rw [if_neg c26] at H
                 exact absurd H (by simp)
             · rw [if_neg c25] at H
               exact absurd H (by simp)
           · rw [if_neg c23] at H
             exact absurd H (by simp)
         · rw [if_neg c22] at H
           exact absurd H (by simp)
       · rw [if_neg c21] at H
         have c21b0 : decide (x31_2 < (t290.length : Int)) = false := decide_eq_false c21
         clear c21
         obtain rfl := Option.some.inj H
         go_wp2
         go_ret
         exact ⟨_, by first | rfl | (simp [zwa, zva] <;> rfl) | (simp [*, zwa, zva] <;> rfl), by (with_reducible repeat (first | apply Kd.S_alloc | apply Kd.S_drewN | apply Kd.S_drew)); exact HO_6.out, by repeat (first | (with_reducible first | exact HB.out | apply zda | apply zba | apply zca | refine zea ?_ GE289.out) | exact HB.out)⟩
end Go.Proofs.YtoacbkoenkiahaaGreat.PTopGluePlate
end
section
namespace Go.Proofs.YtoacbkoenkiahaaGreat.PTopGluePlate
open Go.RowKit Go.Proofs.YtoacbkoenkiahaaGreatW.PrintWords Go.Proofs.YtoacbkoenkiahaaGreatW.PrintLast Go.Proofs.YtoacbkoenkiahaaGreatW.PrintMore
attribute [local go_sem] znb zlb zhc zgc zeb zdb zmb zkb
set_option linter.unusedVariables false
set_option linter.unusedSimpArgs false
def zde.f (k : Nat) (a0_0 : Int) (l0_1 : List Int) (l1 : List (S32)) (a2_0 : Int) (a2_1 : Int) (a2_2 : Int) : Option (Bool) := (zfb.f k a0_0 l0_1 l1 a2_0).bind fun t339 => (if 0 ≤ a2_1 then (if a2_1 < (t339.length : Int) then (if 0 ≤ a2_2 then (some ((Go.bits .and .i64 (shr .i64 (rd t339 a2_1) a2_2) 1) == 1)) else (none)) else (none)) else (none))
def zde.T1 : Bool × List (List Nat × List Nat) := (true, [([], []), ([], []), ([], []), ([2], [2]), ([0, 1, 3], [0, 1, 3]), ([], []), ([5], [5]), ([4, 6], [4, 6]), ([7], [7]), ([], []), ([9], [9]), ([8, 10], [8, 10]), ([11], [11]), ([12], [12]), ([13, 4, 0, 1, 2, 3, 4, 5, 6, 7, 8, 9, 10, 11, 12, 13], [13])])
def zde.B1 : List Nat := [0, 0, 0, 4, 15, 0, 32, 127, 255, 0, 512, 2047, 4095, 8191, 16383]
theorem zde.tab1 : rtab .any (opsOf Tryz.f53 1) = zde.T1 := by kernel_rfl
theorem zde.bits1 : waitsOk zde.T1.2 zde.B1 = true := by kernel_rfl
set_option maxHeartbeats 8000000 in
set_option maxRecDepth 100000 in
theorem zde.calls (k : Nat) (a0_0 : Int) (A0_1 : Option Addr) (c0_1 : Nat) (l0_1 : List Int) (A1 : Option Addr) (c1 : Nat) (l1 : List (S32)) (a2_0 : Int) (a2_1 : Int) (a2_2 : Int) (r : Bool) (w : World) (hr0_1 : Kd.C (Kd.int .i64) w A0_1 l0_1.length l0_1) (hc0_1 : l0_1.length ≤ c0_1) (hr1 : Kd.C k32 w A1 l1.length l1) (hc1 : l1.length ≤ c1) (h : zde.f k a0_0 l0_1 l1 a2_0 a2_1 a2_2 = some r) :
 Calls Tryz.prog 53 #[.agg #[.int .i64 a0_0, .slice A0_1 l0_1.length c0_1], .slice A1 l1.length c1, .agg #[.int .i64 a2_0, .int .i64 a2_1, .int .i64 a2_2]] w fun e w' => e = .returned (.bool r) ∧ Below w.heap.size w w' := by
 have hu66 := Tryz.underlying66
 have hu111 := Tryz.underlying111
 have HR0_1 := zaa.mk hr0_1
 have HC0_1 := zaa.mk hc0_1
 clear hr0_1 hc0_1
 have HR1 := zaa.mk hr1
 have HC1 := zaa.mk hc1
 clear hr1 hc1
 have HB := zaa.mk (Below.refl w.heap.size w)
 have H : ((zfb.f k a0_0 l0_1 l1 a2_0).bind fun t339 => (if 0 ≤ a2_1 then (if a2_1 < (t339.length : Int) then (if 0 ≤ a2_2 then (some ((Go.bits .and .i64 (shr .i64 (rd t339 a2_1) a2_2) 1) == 1)) else (none)) else (none)) else (none))) = some r := h
 clear h
 replace H := Option.bind_eq_some_iff.mp H
 obtain ⟨t339, A40, H⟩ := H
 replace H : (if 0 ≤ a2_1 then (if a2_1 < (t339.length : Int) then (if 0 ≤ a2_2 then (some ((Go.bits .and .i64 (shr .i64 (rd t339 a2_1) a2_2) 1) == 1)) else (none)) else (none)) else (none)) = some r := H
 have A4 := zaa.mk A40
 clear A40
 by_cases c5 : 0 ≤ a2_1
 · rw [if_pos c5] at H
   have c5b0 : decide (0 ≤ a2_1) = true := decide_eq_true c5
   clear c5
   by_cases c6 : a2_1 < (t339.length : Int)
   · rw [if_pos c6] at H
     have c6b0 : decide (a2_1 < (t339.length : Int)) = true := decide_eq_true c6
     clear c6
     by_cases c7 : 0 ≤ a2_2
     · rw [if_pos c7] at H
       have c7b0 := eq_true c7
       have c7b1 : decide (0 ≤ a2_2) = true := decide_eq_true c7
       clear c7
       obtain ⟨ji8, hji8⟩ : ∃ j_ : Int, (shr .i64 (rd t339 a2_1) a2_2) = j_ := ⟨_, rfl⟩
       replace H : (some ((Go.bits .and .i64 (ji8) 1) == 1)) = some r := by first | (rw [hji8] at H; exact H) | (simp only [hji8] at H ⊢; exact H)
       (try rw [hji8] at A4)
       have hji8_ : ((rd t339 a2_1) / 2 ^ min a2_2.toNat 64) = ji8 := hji8
       have hji8z : a2_2 ≤ 64 → ((rd t339 a2_1) / 2 ^ a2_2.toNat) = ji8 := shr_small hji8
       obtain rfl := Option.some.inj H
       go_enter Tryz.func53, Tryz.ntmps53
       try go_wp2_with (first | ((with_reducible refine zbb (N := 3) rfl ?_); refine zob ?hg (N := 3) ?hd (cs := #[.int .i64 a0_0, .slice A0_1 l0_1.length c0_1]) (t := 66) ?hr ?_; (case hd => rfl); (case hg => rfl); (case hr => first | (go_simp; done) | (go_simp; rfl)); intro gb337 hg w9 hbox hb; have BK337 := zaa.mk (hbox); have GW337 := zaa.mk ((by rw [hg]; exact (zja (by repeat (first | (with_reducible first | exact HB.out | apply zda | apply zba | apply zca) | exact HB.out))) : w.heap.size ≤ gb337)); have GE337 := zaa.mk ((by rw [hg]; exact (zja (by repeat (first | (with_reducible first | exact HB.out | apply zda | apply zba | apply zca) | exact HB.out))) : w.heap.size ≤ gb337)); replace HB := zaa.mk (zma (by repeat (first | (with_reducible first | exact HB.out | apply zda | apply zba | apply zca) | exact HB.out)) hb); clear hb hbox hg) | ((with_reducible refine zbb (N := 5) rfl ?_); refine zob ?hg (N := 5) ?hd (cs := #[.int .i64 a2_0, .int .i64 a2_1, .int .i64 a2_2]) (t := 111) ?hr ?_; (case hd => rfl); (case hg => rfl); (case hr => first | (go_simp; done) | (go_simp; rfl)); intro gb338 hg w10 hbox hb; have BK338 := zaa.mk (hbox); have GW338 := zaa.mk ((by rw [hg]; exact (zja (by repeat (first | (with_reducible first | exact HB.out | apply zda | apply zba | apply zca | refine zea ?_ GE337.out) | exact HB.out))) : w.heap.size ≤ gb338)); have GE338 := zaa.mk ((by rw [hg]; exact (zja (by repeat (first | (with_reducible first | exact HB.out | apply zda | apply zba | apply zca | refine zea ?_ GE337.out) | exact HB.out))) : w.heap.size ≤ gb338)); replace HB := zaa.mk (zma (by repeat (first | (with_reducible first | exact HB.out | apply zda | apply zba | apply zca | refine zea ?_ GE337.out) | exact HB.out)) hb); have NB337_338 := zaa.mk ((by rw [hg]; exact Nat.ne_of_lt (zbc (g := gb337) (o := .cells #[.int .i64 a0_0, .slice A0_1 l0_1.length c0_1] 66 (0, 0)) (by (with_reducible repeat (first | refine zga ?_ _ | refine zha ?_ | refine zfa ?_ _)); exact BK337.out)) : gb337 ≠ gb338)); have NB338_337 := zaa.mk ((by rw [hg]; exact Nat.ne_of_gt (zbc (g := gb337) (o := .cells #[.int .i64 a0_0, .slice A0_1 l0_1.length c0_1] 66 (0, 0)) (by (with_reducible repeat (first | refine zga ?_ _ | refine zha ?_ | refine zfa ?_ _)); exact BK337.out)) : gb338 ≠ gb337)); replace BK337 := zaa.mk (zna (g := gb337) (o := .cells #[.int .i64 a0_0, .slice A0_1 l0_1.length c0_1] 66 (0, 0)) (by (with_reducible repeat (first | refine zga ?_ _ | refine zha ?_ | refine zfa ?_ _)); exact BK337.out) hb); clear hb hbox hg))
       replace BK337 := zaa.mk (zha BK337.out)
       replace BK338 := zaa.mk (zha BK338.out)
       replace HB := zaa.mk (zca HB.out)
       refine start_ (n := 15) (S := fun w' => w'.cell? ⟨gb337, 0, none⟩ = some (.int .i64 a0_0) ∧ w'.cell? ⟨gb337, 1, none⟩ = some (.slice A0_1 l0_1.length c0_1) ∧ w'.cell? ⟨gb338, 0, none⟩ = some (.int .i64 a2_0) ∧ w'.cell? ⟨gb338, 1, none⟩ = some (.int .i64 a2_1) ∧ w'.cell? ⟨gb338, 2, none⟩ = some (.int .i64 a2_2)) (ds := []) #[false, false, false, false, false, false, false, false, false, false, false, false, false, false, false] (by kernel_rfl) rfl rfl ⟨(zla BK337.out 0).trans rfl, (zla BK337.out 1).trans rfl, (zla BK338.out 0).trans rfl, (zla BK338.out 1).trans rfl, (zla BK338.out 2).trans rfl⟩ (fun hHeld => ?_); refine with_tabW zde.tab1 zde.bits1 (fun HT_ HW_ => ?_)
       generalize w10.drew = w11 at BK337 BK338 HB hHeld ⊢
       refine zxc (i := 1) (N := some 8) (v := ?_) (a' := ?_) #[false, true, false, false, false, false, false, false, false, false, false, false, false, false, false] rfl rfl (zyb HT_.out (by kernel_rfl)) (fun _ _ _ h => h) (Or.inl ⟨by rfl, ?_⟩) ?_ ?_
       rotate_left
       · intro w'
         go_simp
         with_reducible rfl
       rotate_left
       · simp only [Act.put, List.setIfInBounds_toArray, List.set_cons_zero, List.set_cons_succ, zpb, zzb]
         rfl
       refine zxc (i := 2) (N := some 9) (v := ?_) (a' := ?_) #[false, true, true, false, false, false, false, false, false, false, false, false, false, false, false] rfl rfl (zyb HT_.out (by kernel_rfl)) (fun _ _ _ h => h) (Or.inl ⟨by rfl, ?_⟩) ?_ ?_
       rotate_left
       · intro w'
         go_simp
         with_reducible rfl
       rotate_left
       · simp only [Act.put, List.setIfInBounds_toArray, List.set_cons_zero, List.set_cons_succ, zpb, zzb]
         rfl
       refine zxc (i := 5) (N := some 12) (v := ?_) (a' := ?_) #[false, true, true, false, false, true, false, false, false, false, false, false, false, false, false] rfl rfl (zyb HT_.out (by kernel_rfl)) (fun _ _ _ h => h) (Or.inl ⟨by rfl, ?_⟩) ?_ ?_
       rotate_left
       · intro w'
         go_simp
         with_reducible rfl
       rotate_left
       · simp only [Act.put, List.setIfInBounds_toArray, List.set_cons_zero, List.set_cons_succ, zpb, zzb]
         rfl
       refine zxc (i := 9) (N := some 16) (v := ?_) (a' := ?_) #[false, true, true, false, false, true, false, false, false, true, false, false, false, false, false] rfl rfl (zyb HT_.out (by kernel_rfl)) (fun _ _ _ h => h) (Or.inl ⟨by rfl, ?_⟩) ?_ ?_
       rotate_left
       · intro w'
         go_simp
         with_reducible rfl
       rotate_left
       · simp only [Act.put, List.setIfInBounds_toArray, List.set_cons_zero, List.set_cons_succ, zpb, zzb]
         rfl
       refine take_ (i := 0) (N := some 7) (v := ?_) (a' := ?_) #[true, true, true, false, false, true, false, false, false, true, false, false, false, false, false] rfl rfl (zge HT_.out HW_.out (by kernel_rfl)) (fun _ _ _ h => h) (Or.inl ⟨by rfl, ?_⟩) hHeld ?_ ?_
       rotate_left
       · rintro w' ⟨s0, s1, s2, s3, s4⟩
         go_simp
         with_reducible rfl
       rotate_left
       · simp only [Act.put, List.setIfInBounds_toArray, List.set_cons_zero, List.set_cons_succ, zpb, zzb]
         rfl
       refine take_ (i := 3) (N := some 10) (v := ?_) (a' := ?_) #[true, true, true, true, false, true, false, false, false, true, false, false, false, false, false] rfl rfl (zge HT_.out HW_.out (by kernel_rfl)) (fun _ _ _ h => h) (Or.inl ⟨by rfl, ?_⟩) hHeld ?_ ?_
       rotate_left
       · rintro w' ⟨s0, s1, s2, s3, s4⟩
         go_simp
         with_reducible rfl
       rotate_left
       · simp only [Act.put, List.setIfInBounds_toArray, List.set_cons_zero, List.set_cons_succ, zpb, zzb]
         rfl
       refine take_ (i := 6) (N := some 13) (v := ?_) (a' := ?_) #[true, true, true, true, false, true, true, false, false, true, false, false, false, false, false] rfl rfl (zge HT_.out HW_.out (by kernel_rfl)) (fun _ _ _ h => h) (Or.inl ⟨by rfl, ?_⟩) hHeld ?_ ?_
       rotate_left
       · rintro w' ⟨s0, s1, s2, s3, s4⟩
         go_simp
         with_reducible rfl
       rotate_left
       · simp only [Act.put, List.setIfInBounds_toArray, List.set_cons_zero, List.set_cons_succ, zpb, zzb]
         rfl
       refine take_ (i := 10) (N := some 17) (v := ?_) (a' := ?_) #[true, true, true, true, false, true, true, false, false, true, true, false, false, false, false] rfl rfl (zge HT_.out HW_.out (by kernel_rfl)) (fun _ _ _ h => h) (Or.inl ⟨by rfl, ?_⟩) hHeld ?_ ?_
       rotate_left
       · rintro w' ⟨s0, s1, s2, s3, s4⟩
         go_simp
         with_reducible rfl
       rotate_left
       · simp only [Act.put, List.setIfInBounds_toArray, List.set_cons_zero, List.set_cons_succ, zpb, zzb]
         rfl
       refine one_ (i := 4) (N := some 11) #[true, true, true, true, true, true, true, false, false, true, true, false, false, false, false] rfl rfl (one_of HT_.out (by kernel_rfl)) (by decide) (fun K hK => ?_)
       refine goes_ Tryz.func17 (by kernel_rfl) rfl #[.agg #[.int .i64 a0_0, .slice A0_1 l0_1.length c0_1], .slice A1 l1.length c1, .int .i64 a2_0] (by rfl) rfl rfl (by (try simp only [List.map_toArray, List.map_cons, List.map_nil]); first | done | rfl | (simp only [List.length_drop, List.length_take]; rfl)) ?_
       with_reducible refine (zfb.calls k a0_0 _ _ l0_1 _ _ l1 a2_0 t339 _ ?side1 ?side2 ?side3 ?side4 A4.out).mono ?_
       (case side1 => repeat (first | exact (Kd.zkc HR0_1.out HB.out) | (with_reducible refine Kd.zrb ?_ _) | (with_reducible refine Kd.zqb ?_ _) | (with_reducible refine Kd.zmc ?_)))
       (case side2 => exact HC0_1.out)
       (case side3 => repeat (first | exact (Kd.zkc HR1.out HB.out) | (with_reducible refine Kd.zrb ?_ _) | (with_reducible refine Kd.zqb ?_ _) | (with_reducible refine Kd.zmc ?_)))
       (case side4 => exact HC1.out)
       rintro e w12 ⟨v340, rfl, ho0, hb⟩
       refine ⟨_, rfl, ?_⟩
       have HO341 := zaa.mk (Kd.znd ho0 (zja (by repeat (first | (with_reducible first | exact HB.out | apply zda | apply zba | apply zca | refine zea ?_ GE337.out | refine zea ?_ GE338.out) | exact HB.out))))
       replace BK337 := zaa.mk (zna (g := gb337) (o := .cells #[.int .i64 a0_0, .slice A0_1 l0_1.length c0_1] 66 (0, 0)) (by (with_reducible repeat (first | refine zga ?_ _ | refine zha ?_ | refine zfa ?_ _)); exact BK337.out) hb)
       replace BK338 := zaa.mk (zna (g := gb338) (o := .cells #[.int .i64 a2_0, .int .i64 a2_1, .int .i64 a2_2] 111 (0, 0)) (by (with_reducible repeat (first | refine zga ?_ _ | refine zha ?_ | refine zfa ?_ _)); exact BK338.out) hb)
       replace HB := zaa.mk (zma (by repeat (first | (with_reducible first | exact HB.out | apply zda | apply zba | apply zca | refine zea ?_ GE337.out | refine zea ?_ GE338.out) | exact HB.out)) hb)
       (try clear hb)
       (try clear hb2)
       (try clear hk)
       (try clear hi)
       (try clear ho0)
       obtain ⟨Ao13, co13, eo13⟩ := Kd.zfd HO341.out
       (first | subst eo13 | (injection eo13 with f1_ f2_ f3_; have f4_ := f1_.symm; have f5_ := f3_.symm; clear f1_ f2_ f3_; subst f4_; subst f5_))
       have p342 : 0 ≤ (a2_1 : Int) := of_decide_eq_true (by first | (with_reducible assumption) | assumption)
       have q342 : a2_1 < (t339.length : Int) := of_decide_eq_true (by first | (with_reducible assumption) | assumption)
       obtain ⟨ad342, e342, hx342_0⟩ := Kd.at_int (Kd.zgb HO341.out).2.2 a2_1 p342 q342
       cases e342
       replace p342 := eq_true p342
       replace q342 := eq_true q342
       refine hK.out _ _ ⟨(zla BK337.out 0).trans rfl, (zla BK337.out 1).trans rfl, (zla BK338.out 0).trans rfl, (zla BK338.out 1).trans rfl, (zla BK338.out 2).trans rfl⟩ (fun hHeld => ?_)
       clear hK K
       refine norm_ (a' := ?_) ?_ ?_
       rotate_left
       · show Act.put _ (some 11) _ = _
         simp only [Act.put, List.setIfInBounds_toArray, List.set_cons_zero, List.set_cons_succ, zpb, zzb]
         rfl
       refine zxc (i := 7) (N := some 14) (v := ?_) (a' := ?_) #[true, true, true, true, true, true, true, true, false, true, true, false, false, false, false] rfl rfl (zyb HT_.out (by kernel_rfl)) (fun _ _ _ h => h) (Or.inl ⟨by rfl, ?_⟩) ?_ ?_
       rotate_left
       · intro w'
         go_simp
         with_reducible rfl
       rotate_left
       · simp only [Act.put, List.setIfInBounds_toArray, List.set_cons_zero, List.set_cons_succ, zpb, zzb]
         rfl
       refine one_ (i := 8) (N := some 15) #[true, true, true, true, true, true, true, true, true, true, true, false, false, false, false] rfl rfl (one_of HT_.out (by kernel_rfl)) (by decide) (fun K hK => ?_)
       refine event_step (v := .int .i64 (rd t339 a2_1)) rfl (by first | (go_simp; done) | (go_simp; rfl)) ?_
       refine hK.out _ _ hHeld (fun hHeld => ?_)
       clear hK K
       refine norm_ (a' := ?_) ?_ ?_
       rotate_left
       · simp only [Act.put, List.setIfInBounds_toArray, List.set_cons_zero, List.set_cons_succ, zpb, zzb]
         rfl
       refine zxc (i := 11) (N := some 18) (v := ?_) (a' := ?_) #[true, true, true, true, true, true, true, true, true, true, true, true, false, false, false] rfl rfl (zyb HT_.out (by kernel_rfl)) (fun _ _ _ h => h) (Or.inl ⟨by rfl, ?_⟩) ?_ ?_
       rotate_left
       · intro w'
         go_simp
         with_reducible rfl
       rotate_left
       · simp only [Act.put, List.setIfInBounds_toArray, List.set_cons_zero, List.set_cons_succ, zpb, zzb]
         rfl
       refine zxc (i := 12) (N := some 19) (v := ?_) (a' := ?_) #[true, true, true, true, true, true, true, true, true, true, true, true, true, false, false] rfl rfl (zyb HT_.out (by kernel_rfl)) (fun _ _ _ h => h) (Or.inl ⟨by rfl, ?_⟩) ?_ ?_
       rotate_left
       · intro w'
         go_simp
         with_reducible rfl
       rotate_left
       · simp only [Act.put, List.setIfInBounds_toArray, List.set_cons_zero, List.set_cons_succ, zpb, zzb]
         rfl
       refine zxc (i := 13) (N := some 20) (v := ?_) (a' := ?_) #[true, true, true, true, true, true, true, true, true, true, true, true, true, true, false] rfl rfl (zyb HT_.out (by kernel_rfl)) (fun _ _ _ h => h) (Or.inl ⟨by rfl, ?_⟩) ?_ ?_
       rotate_left
       · intro w'
         go_simp
         with_reducible rfl
       rotate_left
       · simp only [Act.put, List.setIfInBounds_toArray, List.set_cons_zero, List.set_cons_succ, zpb, zzb]
         rfl
       refine zxc (i := 14) (N := some 6) (v := ?_) (a' := ?_) #[true, true, true, true, true, true, true, true, true, true, true, true, true, true, true] rfl rfl (zyb HT_.out (by kernel_rfl)) (fun _ _ _ h => h) (Or.inl ⟨by rfl, ?_⟩) ?_ ?_
       rotate_left
       · intro w'
         go_simp
         with_reducible rfl
       rotate_left
       · simp only [Act.put, List.setIfInBounds_toArray, List.set_cons_zero, List.set_cons_succ, zpb, zzb]
         rfl
       refine done_ (done_of HT_.out (by kernel_rfl)) ?_
       try go_wp2
       go_ret
       exact ⟨by first | rfl | (simp [zwa, zva] <;> rfl) | (simp only [← hji8]; first | rfl | (simp [zwa, zva] <;> rfl)) | (simp [*, zwa, zva] <;> rfl), by repeat (first | (with_reducible first | exact HB.out | apply zda | apply zba | apply zca | refine zea ?_ GE337.out | refine zea ?_ GE338.out) | exact HB.out)⟩
     · rw [if_neg c7] at H
       exact absurd H (by simp)
   · rw [if_neg c6] at H
     exact absurd H (by simp)
 · rw [if_neg c5] at H
   exact absurd H (by simp)
end Go.Proofs.YtoacbkoenkiahaaGreat.PTopGluePlate
end
section
namespace Go.Proofs.YtoacbkoenkiahaaGreat.PTopGluePlate
open Go.RowKit Go.Proofs.YtoacbkoenkiahaaGreatW.PrintWords Go.Proofs.YtoacbkoenkiahaaGreatW.PrintLast Go.Proofs.YtoacbkoenkiahaaGreatW.PrintMore
attribute [local go_sem] znb zlb zhc zgc zeb zdb zmb zkb
set_option linter.unusedVariables false
set_option linter.unusedSimpArgs false
def zoc.f (k : Nat) (a0_0 : Int) (a0_1 : Int) (a0_2 : Int) (a0_3 : Bool) (a1_0 : Int) (l1_1 : List Int) (l2_0 : List (S32)) : Option (Bool) := (zde.f k a1_0 l1_1 l2_0 a0_0 a0_1 a0_2).bind fun t320 => (some (t320 != a0_3))
def zoc.T1 : Bool × List (List Nat × List Nat) := (true, [([], []), ([], []), ([], []), ([2], [2]), ([], []), ([4], [4]), ([], []), ([6], [6]), ([3, 5, 7], [3, 5, 7]), ([0, 1, 8], [0, 1, 8]), ([], []), ([10], [10]), ([9, 11], [9, 11]), ([12, 9, 0, 1, 2, 3, 4, 5, 6, 7, 8, 9, 10, 11, 12], [12])])
def zoc.B1 : List Nat := [0, 0, 0, 4, 0, 16, 0, 64, 252, 511, 0, 1024, 4095, 8191]
theorem zoc.tab1 : rtab .any (opsOf Tryz.f52 1) = zoc.T1 := by kernel_rfl
theorem zoc.bits1 : waitsOk zoc.T1.2 zoc.B1 = true := by kernel_rfl
set_option maxHeartbeats 8000000 in
set_option maxRecDepth 100000 in
theorem zoc.calls (k : Nat) (a0_0 : Int) (a0_1 : Int) (a0_2 : Int) (a0_3 : Bool) (g1_ : Nat) (a1_0 : Int) (A1_1 : Option Addr) (c1_1 : Nat) (l1_1 : List Int) (g2_ : Nat) (A2_0 : Option Addr) (c2_0 : Nat) (l2_0 : List (S32)) (r : Bool) (w : World) (hr1_1 : Kd.C (Kd.int .i64) w A1_1 l1_1.length l1_1) (hc1_1 : l1_1.length ≤ c1_1) (hr2_0 : Kd.C k32 w A2_0 l2_0.length l2_0) (hc2_0 : l2_0.length ≤ c2_0) (hbx1 : w.heap[g1_]? = some (.cells #[.int .i64 a1_0, .slice A1_1 l1_1.length c1_1] 66 (0, 0))) (hbx2 : w.heap[g2_]? = some (.cells #[.slice A2_0 l2_0.length c2_0] 33 (0, 0))) (hnx1_2 : g1_ ≠ g2_) (h : zoc.f k a0_0 a0_1 a0_2 a0_3 a1_0 l1_1 l2_0 = some r) :
 Calls Tryz.prog 52 #[.agg #[.int .i64 a0_0, .int .i64 a0_1, .int .i64 a0_2, .bool a0_3], .pointer (some ⟨g1_, 0, none⟩), .pointer (some ⟨g2_, 0, none⟩)] w fun e w' => e = .returned (.bool r) ∧ Below w.heap.size w w' := by
 have hu59 := Tryz.underlying59
 have hu66 := Tryz.underlying66
 have hu111 := Tryz.underlying111
 have HR1_1 := zaa.mk hr1_1
 have HC1_1 := zaa.mk hc1_1
 clear hr1_1 hc1_1
 have HR2_0 := zaa.mk hr2_0
 have HC2_0 := zaa.mk hc2_0
 clear hr2_0 hc2_0
 have BK1 := zaa.mk hbx1
 clear hbx1
 have BK2 := zaa.mk hbx2
 clear hbx2
 have NB1_2 := zaa.mk hnx1_2
 have NB2_1 := zaa.mk hnx1_2.symm
 clear hnx1_2
 have HB := zaa.mk (Below.refl w.heap.size w)
 have H : ((zde.f k a1_0 l1_1 l2_0 a0_0 a0_1 a0_2).bind fun t320 => (some (t320 != a0_3))) = some r := h
 clear h
 replace H := Option.bind_eq_some_iff.mp H
 obtain ⟨t320, A40, H⟩ := H
 replace H : (some (t320 != a0_3)) = some r := H
 have A4 := zaa.mk A40
 clear A40
 obtain rfl := Option.some.inj H
 go_enter Tryz.func52, Tryz.ntmps52
 try go_wp2_with (first | ((with_reducible refine zbb (N := 3) rfl ?_); refine zob ?hg (N := 3) ?hd (cs := #[.int .i64 a0_0, .int .i64 a0_1, .int .i64 a0_2, .bool a0_3]) (t := 59) ?hr ?_; (case hd => rfl); (case hg => rfl); (case hr => first | (go_simp; done) | (go_simp; rfl)); intro gb319 hg w5 hbox hb; have BK319 := zaa.mk (hbox); have GW319 := zaa.mk ((by rw [hg]; exact (zja (by repeat (first | (with_reducible first | exact HB.out | apply zda | apply zba | apply zca | refine zea ?_ GE1.out | refine zea ?_ GE2.out) | exact HB.out))) : w.heap.size ≤ gb319)); have GE319 := zaa.mk ((by rw [hg]; exact (zja (by repeat (first | (with_reducible first | exact HB.out | apply zda | apply zba | apply zca | refine zea ?_ GE1.out | refine zea ?_ GE2.out) | exact HB.out))) : w.heap.size ≤ gb319)); replace HB := zaa.mk (zma (by repeat (first | (with_reducible first | exact HB.out | apply zda | apply zba | apply zca | refine zea ?_ GE1.out | refine zea ?_ GE2.out) | exact HB.out)) hb); have NB1_319 := zaa.mk ((by rw [hg]; exact Nat.ne_of_lt (zbc (g := g1_) (o := .cells #[.int .i64 a1_0, .slice A1_1 l1_1.length c1_1] 66 (0, 0)) (by (with_reducible repeat (first | refine zga ?_ _ | refine zha ?_ | refine zfa ?_ _)); exact BK1.out)) : g1_ ≠ gb319)); have NB319_1 := zaa.mk ((by rw [hg]; exact Nat.ne_of_gt (zbc (g := g1_) (o := .cells #[.int .i64 a1_0, .slice A1_1 l1_1.length c1_1] 66 (0, 0)) (by (with_reducible repeat (first | refine zga ?_ _ | refine zha ?_ | refine zfa ?_ _)); exact BK1.out)) : gb319 ≠ g1_)); replace BK1 := zaa.mk (zna (g := g1_) (o := .cells #[.int .i64 a1_0, .slice A1_1 l1_1.length c1_1] 66 (0, 0)) (by (with_reducible repeat (first | refine zga ?_ _ | refine zha ?_ | refine zfa ?_ _)); exact BK1.out) hb); have NB2_319 := zaa.mk ((by rw [hg]; exact Nat.ne_of_lt (zbc (g := g2_) (o := .cells #[.slice A2_0 l2_0.length c2_0] 33 (0, 0)) (by (with_reducible repeat (first | refine zga ?_ _ | refine zha ?_ | refine zfa ?_ _)); exact BK2.out)) : g2_ ≠ gb319)); have NB319_2 := zaa.mk ((by rw [hg]; exact Nat.ne_of_gt (zbc (g := g2_) (o := .cells #[.slice A2_0 l2_0.length c2_0] 33 (0, 0)) (by (with_reducible repeat (first | refine zga ?_ _ | refine zha ?_ | refine zfa ?_ _)); exact BK2.out)) : gb319 ≠ g2_)); replace BK2 := zaa.mk (zna (g := g2_) (o := .cells #[.slice A2_0 l2_0.length c2_0] 33 (0, 0)) (by (with_reducible repeat (first | refine zga ?_ _ | refine zha ?_ | refine zfa ?_ _)); exact BK2.out) hb); clear hb hbox hg))
 replace BK1 := zaa.mk (zha BK1.out)
 replace BK2 := zaa.mk (zha BK2.out)
 replace BK319 := zaa.mk (zha BK319.out)
 replace HB := zaa.mk (zca HB.out)
 refine start_ (n := 14) (S := fun w' => w'.cell? ⟨g1_, 0, none⟩ = some (.int .i64 a1_0) ∧ w'.cell? ⟨g1_, 1, none⟩ = some (.slice A1_1 l1_1.length c1_1) ∧ w'.cell? ⟨g2_, 0, none⟩ = some (.slice A2_0 l2_0.length c2_0) ∧ w'.cell? ⟨gb319, 0, none⟩ = some (.int .i64 a0_0) ∧ w'.cell? ⟨gb319, 1, none⟩ = some (.int .i64 a0_1) ∧ w'.cell? ⟨gb319, 2, none⟩ = some (.int .i64 a0_2) ∧ w'.cell? ⟨gb319, 3, none⟩ = some (.bool a0_3)) (ds := []) #[false, false, false, false, false, false, false, false, false, false, false, false, false, false] (by kernel_rfl) rfl rfl ⟨(zla BK1.out 0).trans rfl, (zla BK1.out 1).trans rfl, (zla BK2.out 0).trans rfl, (zla BK319.out 0).trans rfl, (zla BK319.out 1).trans rfl, (zla BK319.out 2).trans rfl, (zla BK319.out 3).trans rfl⟩ (fun hHeld => ?_); refine with_tabW zoc.tab1 zoc.bits1 (fun HT_ HW_ => ?_)
 generalize w5.drew = w6 at BK1 BK2 BK319 HB hHeld ⊢
 refine zxc (i := 2) (N := some 7) (v := ?_) (a' := ?_) #[false, false, true, false, false, false, false, false, false, false, false, false, false, false] rfl rfl (zyb HT_.out (by kernel_rfl)) (fun _ _ _ h => h) (Or.inl ⟨by rfl, ?_⟩) ?_ ?_
 rotate_left
 · intro w'
   go_simp
   with_reducible rfl
 rotate_left
 · simp only [Act.put, List.setIfInBounds_toArray, List.set_cons_zero, List.set_cons_succ, zpb, zzb]
   rfl
 refine zxc (i := 4) (N := some 9) (v := ?_) (a' := ?_) #[false, false, true, false, true, false, false, false, false, false, false, false, false, false] rfl rfl (zyb HT_.out (by kernel_rfl)) (fun _ _ _ h => h) (Or.inl ⟨by rfl, ?_⟩) ?_ ?_
 rotate_left
 · intro w'
   go_simp
   with_reducible rfl
 rotate_left
 · simp only [Act.put, List.setIfInBounds_toArray, List.set_cons_zero, List.set_cons_succ, zpb, zzb]
   rfl
 refine zxc (i := 6) (N := some 11) (v := ?_) (a' := ?_) #[false, false, true, false, true, false, true, false, false, false, false, false, false, false] rfl rfl (zyb HT_.out (by kernel_rfl)) (fun _ _ _ h => h) (Or.inl ⟨by rfl, ?_⟩) ?_ ?_
 rotate_left
 · intro w'
   go_simp
   with_reducible rfl
 rotate_left
 · simp only [Act.put, List.setIfInBounds_toArray, List.set_cons_zero, List.set_cons_succ, zpb, zzb]
   rfl
 refine zxc (i := 10) (N := some 15) (v := ?_) (a' := ?_) #[false, false, true, false, true, false, true, false, false, false, true, false, false, false] rfl rfl (zyb HT_.out (by kernel_rfl)) (fun _ _ _ h => h) (Or.inl ⟨by rfl, ?_⟩) ?_ ?_
 rotate_left
 · intro w'
   go_simp
   with_reducible rfl
 rotate_left
 · simp only [Act.put, List.setIfInBounds_toArray, List.set_cons_zero, List.set_cons_succ, zpb, zzb]
   rfl
 refine take_ (i := 0) (N := some 5) (v := ?_) (a' := ?_) #[true, false, true, false, true, false, true, false, false, false, true, false, false, false] rfl rfl (zge HT_.out HW_.out (by kernel_rfl)) (fun _ _ _ h => h) (Or.inl ⟨by rfl, ?_⟩) hHeld ?_ ?_
 rotate_left
 · rintro w' ⟨s0, s1, s2, s3, s4, s5, s6⟩
   go_simp
   with_reducible rfl
 rotate_left
 · simp only [Act.put, List.setIfInBounds_toArray, List.set_cons_zero, List.set_cons_succ, zpb, zzb]
   rfl
 refine take_ (i := 1) (N := some 6) (v := ?_) (a' := ?_) #[true, true, true, false, true, false, true, false, false, false, true, false, false, false] rfl rfl (zge HT_.out HW_.out (by kernel_rfl)) (fun _ _ _ h => h) (Or.inl ⟨by rfl, ?_⟩) hHeld ?_ ?_
 rotate_left
 · rintro w' ⟨s0, s1, s2, s3, s4, s5, s6⟩
   go_simp
   with_reducible rfl
 rotate_left
 · simp only [Act.put, List.setIfInBounds_toArray, List.set_cons_zero, List.set_cons_succ, zpb, zzb]
   rfl
 refine take_ (i := 3) (N := some 8) (v := ?_) (a' := ?_) #[true, true, true, true, true, false, true, false, false, false, true, false, false, false] rfl rfl (zge HT_.out HW_.out (by kernel_rfl)) (fun _ _ _ h => h) (Or.inl ⟨by rfl, ?_⟩) hHeld ?_ ?_
 rotate_left
 · rintro w' ⟨s0, s1, s2, s3, s4, s5, s6⟩
   go_simp
   with_reducible rfl
 rotate_left
 · simp only [Act.put, List.setIfInBounds_toArray, List.set_cons_zero, List.set_cons_succ, zpb, zzb]
   rfl
 refine take_ (i := 5) (N := some 10) (v := ?_) (a' := ?_) #[true, true, true, true, true, true, true, false, false, false, true, false, false, false] rfl rfl (zge HT_.out HW_.out (by kernel_rfl)) (fun _ _ _ h => h) (Or.inl ⟨by rfl, ?_⟩) hHeld ?_ ?_
 rotate_left
 · rintro w' ⟨s0, s1, s2, s3, s4, s5, s6⟩
   go_simp
   with_reducible rfl
 rotate_left
 · simp only [Act.put, List.setIfInBounds_toArray, List.set_cons_zero, List.set_cons_succ, zpb, zzb]
   rfl
 refine take_ (i := 7) (N := some 12) (v := ?_) (a' := ?_) #[true, true, true, true, true, true, true, true, false, false, true, false, false, false] rfl rfl (zge HT_.out HW_.out (by kernel_rfl)) (fun _ _ _ h => h) (Or.inl ⟨by rfl, ?_⟩) hHeld ?_ ?_
 rotate_left
 · rintro w' ⟨s0, s1, s2, s3, s4, s5, s6⟩
   go_simp
   with_reducible rfl
 rotate_left
 · simp only [Act.put, List.setIfInBounds_toArray, List.set_cons_zero, List.set_cons_succ, zpb, zzb]
   rfl
 refine zxc (i := 8) (N := some 13) (v := ?_) (a' := ?_) #[true, true, true, true, true, true, true, true, true, false, true, false, false, false] rfl rfl (zyb HT_.out (by kernel_rfl)) (fun _ _ _ h => h) (Or.inl ⟨by rfl, ?_⟩) ?_ ?_
 rotate_left
 · intro w'
   go_simp
   with_reducible rfl
 rotate_left
 · simp only [Act.put, List.setIfInBounds_toArray, List.set_cons_zero, List.set_cons_succ, zpb, zzb]
   rfl
 refine take_ (i := 11) (N := some 16) (v := ?_) (a' := ?_) #[true, true, true, true, true, true, true, true, true, false, true, true, false, false] rfl rfl (zge HT_.out HW_.out (by kernel_rfl)) (fun _ _ _ h => h) (Or.inl ⟨by rfl, ?_⟩) hHeld ?_ ?_
 rotate_left
 · rintro w' ⟨s0, s1, s2, s3, s4, s5, s6⟩
   go_simp
   with_reducible rfl
 rotate_left
 · simp only [Act.put, List.setIfInBounds_toArray, List.set_cons_zero, List.set_cons_succ, zpb, zzb]
   rfl
 refine one_ (i := 9) (N := some 14) #[true, true, true, true, true, true, true, true, true, true, true, true, false, false] rfl rfl (one_of HT_.out (by kernel_rfl)) (by decide) (fun K hK => ?_)
 refine goes_ Tryz.func53 (by kernel_rfl) rfl #[.agg #[.int .i64 a1_0, .slice A1_1 l1_1.length c1_1], .slice A2_0 l2_0.length c2_0, .agg #[.int .i64 a0_0, .int .i64 a0_1, .int .i64 a0_2]] (by rfl) rfl rfl (by (try simp only [List.map_toArray, List.map_cons, List.map_nil]); first | done | rfl | (simp only [List.length_drop, List.length_take]; rfl)) ?_
 with_reducible refine (zde.calls k a1_0 _ _ l1_1 _ _ l2_0 a0_0 a0_1 a0_2 t320 _ ?side1 ?side2 ?side3 ?side4 A4.out).mono ?_
 (case side1 => repeat (first | exact (Kd.zkc HR1_1.out HB.out) | (with_reducible refine Kd.zrb ?_ _) | (with_reducible refine Kd.zqb ?_ _) | (with_reducible refine Kd.zmc ?_)))
 (case side2 => exact HC1_1.out)
 (case side3 => repeat (first | exact (Kd.zkc HR2_0.out HB.out) | (with_reducible refine Kd.zrb ?_ _) | (with_reducible refine Kd.zqb ?_ _) | (with_reducible refine Kd.zmc ?_)))
 (case side4 => exact HC2_0.out)
 rintro e w7 ⟨rfl, hb⟩
 refine ⟨_, rfl, ?_⟩
 replace BK1 := zaa.mk (zna (g := g1_) (o := .cells #[.int .i64 a1_0, .slice A1_1 l1_1.length c1_1] 66 (0, 0)) (by (with_reducible repeat (first | refine zga ?_ _ | refine zha ?_ | refine zfa ?_ _)); exact BK1.out) hb)
 replace BK2 := zaa.mk (zna (g := g2_) (o := .cells #[.slice A2_0 l2_0.length c2_0] 33 (0, 0)) (by (with_reducible repeat (first | refine zga ?_ _ | refine zha ?_ | refine zfa ?_ _)); exact BK2.out) hb)
 replace BK319 := zaa.mk (zna (g := gb319) (o := .cells #[.int .i64 a0_0, .int .i64 a0_1, .int .i64 a0_2, .bool a0_3] 59 (0, 0)) (by (with_reducible repeat (first | refine zga ?_ _ | refine zha ?_ | refine zfa ?_ _)); exact BK319.out) hb)
 replace HB := zaa.mk (zma (by repeat (first | (with_reducible first | exact HB.out | apply zda | apply zba | apply zca | refine zea ?_ GE1.out | refine zea ?_ GE2.out | refine zea ?_ GE319.out) | exact HB.out)) hb)
 (try clear hb)
 (try clear hb2)
 (try clear hk)
 (try clear hi)
 refine hK.out _ _ ⟨(zla BK1.out 0).trans rfl, (zla BK1.out 1).trans rfl, (zla BK2.out 0).trans rfl, (zla BK319.out 0).trans rfl, (zla BK319.out 1).trans rfl, (zla BK319.out 2).trans rfl, (zla BK319.out 3).trans rfl⟩ (fun hHeld => ?_)
 clear hK K
 refine norm_ (a' := ?_) ?_ ?_
 rotate_left
 · show Act.put _ (some 14) _ = _
   simp only [Act.put, List.setIfInBounds_toArray, List.set_cons_zero, List.set_cons_succ, zpb, zzb]
   rfl
 refine zxc (i := 12) (N := some 17) (v := ?_) (a' := ?_) #[true, true, true, true, true, true, true, true, true, true, true, true, true, false] rfl rfl (zyb HT_.out (by kernel_rfl)) (fun _ _ _ h => h) (Or.inl ⟨by rfl, ?_⟩) ?_ ?_
 rotate_left
 · intro w'
   go_simp
   with_reducible rfl
 rotate_left
 · simp only [Act.put, List.setIfInBounds_toArray, List.set_cons_zero, List.set_cons_succ, zpb, zzb]
   rfl
 refine zxc (i := 13) (N := some 4) (v := ?_) (a' := ?_) #[true, true, true, true, true, true, true, true, true, true, true, true, true, true] rfl rfl (zyb HT_.out (by kernel_rfl)) (fun _ _ _ h => h) (Or.inl ⟨by rfl, ?_⟩) ?_ ?_
 rotate_left
 · intro w'
   go_simp
   with_reducible rfl
 rotate_left
 · simp only [Act.put, List.setIfInBounds_toArray, List.set_cons_zero, List.set_cons_succ, zpb, zzb]
   rfl
 refine done_ (done_of HT_.out (by kernel_rfl)) ?_
 try go_wp2
 go_ret
 exact ⟨by first | rfl | (simp [zwa, zva] <;> rfl) | (simp [*, zwa, zva] <;> rfl), by repeat (first | (with_reducible first | exact HB.out | apply zda | apply zba | apply zca | refine zea ?_ GE1.out | refine zea ?_ GE2.out | refine zea ?_ GE319.out) | exact HB.out)⟩
end Go.Proofs.YtoacbkoenkiahaaGreat.PTopGluePlate
end
section
namespace Go.Proofs.YtoacbkoenkiahaaGreat.PTopGluePlate
open Go.RowKit Go.Proofs.YtoacbkoenkiahaaGreatW.PrintWords Go.Proofs.YtoacbkoenkiahaaGreatW.PrintLast Go.Proofs.YtoacbkoenkiahaaGreatW.PrintMore
attribute [local go_sem] znb zlb zhc zgc zeb zdb zmb zkb
set_option linter.unusedVariables false
set_option linter.unusedSimpArgs false
def zvd.f (k : Nat) (l0 : List (S59)) (a1_0 : Int) (l1_1 : List Int) (l2_0 : List (S32)) : Option Bool := containsO (fun (x : S59) => zoc.f k x.f0 x.f1 x.f2 x.f3 a1_0 l1_1 l2_0) l0
set_option maxHeartbeats 1000000 in
theorem zvd.calls (k : Nat) (A0 : Option Addr) (c0 : Nat) (l0 : List (S59)) (g1_ : Nat) (a1_0 : Int) (A1_1 : Option Addr) (c1_1 : Nat) (l1_1 : List Int) (g2_ : Nat) (A2_0 : Option Addr) (c2_0 : Nat) (l2_0 : List (S32)) (r : Bool) (w : World) (hr0 : Kd.C k59 w A0 l0.length l0) (hc0 : l0.length ≤ c0) (hr1_1 : Kd.C (Kd.int .i64) w A1_1 l1_1.length l1_1) (hc1_1 : l1_1.length ≤ c1_1) (hr2_0 : Kd.C k32 w A2_0 l2_0.length l2_0) (hc2_0 : l2_0.length ≤ c2_0) (hbx1 : w.heap[g1_]? = some (.cells #[.int .i64 a1_0, .slice A1_1 l1_1.length c1_1] 66 (0, 0))) (hbx2 : w.heap[g2_]? = some (.cells #[.slice A2_0 l2_0.length c2_0] 33 (0, 0))) (hnx1_2 : g1_ ≠ g2_) (h : zvd.f k l0 a1_0 l1_1 l2_0 = some r) :
 Calls Tryz.prog 51 #[.slice A0 l0.length c0, .func (.func 52) #[] #[.pointer (some ⟨g1_, 0, none⟩), .pointer (some ⟨g2_, 0, none⟩)]] w fun e w' => e = .returned (.bool r) ∧ Below w.heap.size w w' := by
 have eg : ∀ args w, (callFunc 52 args).run Tryz.prog w = .ok (.enter 52 args) w := enters_of Tryz.func52 (by kernel_rfl) rfl
 refine slices_ContainsFunc_api_GlueLook.calls 52 #[.pointer (some ⟨g1_, 0, none⟩), .pointer (some ⟨g2_, 0, none⟩)] (fun (x : S59) => zoc.f k x.f0 x.f1 x.f2 x.f3 a1_0 l1_1 l2_0) A0 c0 l0 r w hr0 hc0 eg ?_ h
 intro W x hx hW b hb
 refine (zoc.calls k x.f0 x.f1 x.f2 x.f3 g1_ a1_0 _ _ l1_1 g2_ _ _ l2_0 b W (Kd.zkc hr1_1 hW) hc1_1 (Kd.zkc hr2_0 hW) hc2_0 ((hW.block _ (zbc hbx1)).trans hbx1) ((hW.block _ (zbc hbx2)).trans hbx2) hnx1_2 hb).mono ?_
 rintro e w' ⟨rfl, hd⟩; exact ⟨rfl, hd⟩
def glue_explained_1.f (k : Nat) (l0 : List (S32)) (l1_0 : List (S59)) (a2_0 : Int) (l2_1 : List Int) : Option (Bool) := (zvd.f k l1_0 a2_0 l2_1 l0).bind fun t322 => (some t322)
set_option maxHeartbeats 8000000 in
set_option maxRecDepth 100000 in
theorem glue_explained_1.calls (k : Nat) (A0 : Option Addr) (c0 : Nat) (l0 : List (S32)) (g1_ : Nat) (A1_0 : Option Addr) (c1_0 : Nat) (l1_0 : List (S59)) (g2_ : Nat) (a2_0 : Int) (A2_1 : Option Addr) (c2_1 : Nat) (l2_1 : List Int) (r : Bool) (w : World) (hr0 : Kd.C k32 w A0 l0.length l0) (hc0 : l0.length ≤ c0) (hr1_0 : Kd.C k59 w A1_0 l1_0.length l1_0) (hc1_0 : l1_0.length ≤ c1_0) (hr2_1 : Kd.C (Kd.int .i64) w A2_1 l2_1.length l2_1) (hc2_1 : l2_1.length ≤ c2_1) (hbx1 : w.heap[g1_]? = some (.cells #[.slice A1_0 l1_0.length c1_0] 57 (0, 0))) (hbx2 : w.heap[g2_]? = some (.cells #[.int .i64 a2_0, .slice A2_1 l2_1.length c2_1] 66 (0, 0))) (hnx1_2 : g1_ ≠ g2_) (h : glue_explained_1.f k l0 l1_0 a2_0 l2_1 = some r) :
 Calls Tryz.prog 50 #[.slice A0 l0.length c0, .pointer (some ⟨g1_, 0, none⟩), .pointer (some ⟨g2_, 0, none⟩)] w fun e w' => e = .returned (.bool r) ∧ Below w.heap.size w w' := by
 have HR0 := zaa.mk hr0
 have HC0 := zaa.mk hc0
 clear hr0 hc0
 have HR1_0 := zaa.mk hr1_0
 have HC1_0 := zaa.mk hc1_0
 clear hr1_0 hc1_0
 have HR2_1 := zaa.mk hr2_1
 have HC2_1 := zaa.mk hc2_1
 clear hr2_1 hc2_1
 have BK1 := zaa.mk hbx1
 clear hbx1
 have BK2 := zaa.mk hbx2
 clear hbx2
 have NB1_2 := zaa.mk hnx1_2
 have NB2_1 := zaa.mk hnx1_2.symm
 clear hnx1_2
 have HB := zaa.mk (Below.refl w.heap.size w)
 have H : ((zvd.f k l1_0 a2_0 l2_1 l0).bind fun t322 => (some t322)) = some r := h
 clear h
 replace H := Option.bind_eq_some_iff.mp H
 obtain ⟨t322, A40, H⟩ := H
 replace H : (some t322) = some r := H
 have A4 := zaa.mk A40
 clear A40
 obtain rfl := Option.some.inj H
 go_enter Tryz.func50, Tryz.ntmps50
 go_wp2_with (first | ((with_reducible refine zbb (N := 3) rfl ?_); refine zob ?hg (N := 3) ?hd (cs := #[.slice A0 l0.length c0]) (t := 33) ?hr ?_; (case hd => rfl); (case hg => rfl); (case hr => first | (go_simp; done) | (go_simp; rfl)); intro gb321 hg w5 hbox hb; have BK321 := zaa.mk (hbox); have GW321 := zaa.mk ((by rw [hg]; exact (zja (by repeat (first | (with_reducible first | exact HB.out | apply zda | apply zba | apply zca | refine zea ?_ GE1.out | refine zea ?_ GE2.out) | exact HB.out))) : w.heap.size ≤ gb321)); have GE321 := zaa.mk ((by rw [hg]; exact (zja (by repeat (first | (with_reducible first | exact HB.out | apply zda | apply zba | apply zca | refine zea ?_ GE1.out | refine zea ?_ GE2.out) | exact HB.out))) : w.heap.size ≤ gb321)); replace HB := zaa.mk (zma (by repeat (first | (with_reducible first | exact HB.out | apply zda | apply zba | apply zca | refine zea ?_ GE1.out | refine zea ?_ GE2.out) | exact HB.out)) hb); have NB1_321 := zaa.mk ((by rw [hg]; exact Nat.ne_of_lt (zbc (g := g1_) (o := .cells #[.slice A1_0 l1_0.length c1_0] 57 (0, 0)) (by (with_reducible repeat (first | refine zga ?_ _ | refine zha ?_ | refine zfa ?_ _)); exact BK1.out)) : g1_ ≠ gb321)); have NB321_1 := zaa.mk ((by rw [hg]; exact Nat.ne_of_gt (zbc (g := g1_) (o := .cells #[.slice A1_0 l1_0.length c1_0] 57 (0, 0)) (by (with_reducible repeat (first | refine zga ?_ _ | refine zha ?_ | refine zfa ?_ _)); exact BK1.out)) : gb321 ≠ g1_)); replace BK1 := zaa.mk (zna (g := g1_) (o := .cells #[.slice A1_0 l1_0.length c1_0] 57 (0, 0)) (by (with_reducible repeat (first | refine zga ?_ _ | refine zha ?_ | refine zfa ?_ _)); exact BK1.out) hb); have NB2_321 := zaa.mk ((by rw [hg]; exact Nat.ne_of_lt (zbc (g := g2_) (o := .cells #[.int .i64 a2_0, .slice A2_1 l2_1.length c2_1] 66 (0, 0)) (by (with_reducible repeat (first | refine zga ?_ _ | refine zha ?_ | refine zfa ?_ _)); exact BK2.out)) : g2_ ≠ gb321)); have NB321_2 := zaa.mk ((by rw [hg]; exact Nat.ne_of_gt (zbc (g := g2_) (o := .cells #[.int .i64 a2_0, .slice A2_1 l2_1.length c2_1] 66 (0, 0)) (by (with_reducible repeat (first | refine zga ?_ _ | refine zha ?_ | refine zfa ?_ _)); exact BK2.out)) : gb321 ≠ g2_)); replace BK2 := zaa.mk (zna (g := g2_) (o := .cells #[.int .i64 a2_0, .slice A2_1 l2_1.length c2_1] 66 (0, 0)) (by (with_reducible repeat (first | refine zga ?_ _ | refine zha ?_ | refine zfa ?_ _)); exact BK2.out) hb); clear hb hbox hg; have hnb6 := NB1_2.out; have hnc6 := NB2_1.out; have hnb7 := NB1_321.out; have hnc7 := NB321_1.out; have hcz8_0 : w5.cell? ⟨g1_, 0, none⟩ = some (.slice A1_0 l1_0.length c1_0) := (zla BK1.out 0).trans rfl; have hfz8_0 := zka BK1.out 0) | ((with_reducible refine zxa (f := 51) rfl ?_); refine zhd (some 7) rfl rfl Tryz.func51 (by kernel_rfl) rfl #[.slice A1_0 l1_0.length c1_0, .func (.func 52) #[] #[.pointer (some ⟨g2_, 0, none⟩), .pointer (some ⟨gb321, 0, none⟩)]] rfl (by (try simp only [List.map_toArray, List.map_cons, List.map_nil]); first | done | rfl | (simp only [List.length_drop, List.length_take]; rfl)) ?_; (with_reducible refine (zvd.calls k _ _ l1_0 g2_ a2_0 A2_1 c2_1 l2_1 gb321 A0 c0 l0 t322 _ ?side1 ?side2 ?side3 ?side4 ?side5 ?side6 ?side7 ?side8 ?side9 A4.out).mono ?_); (case side1 => repeat (first | exact (Kd.zkc HR1_0.out HB.out) | (with_reducible refine Kd.zrb ?_ _) | (with_reducible refine Kd.zqb ?_ _) | (with_reducible refine Kd.zmc ?_))); (case side2 => exact HC1_0.out); (case side3 => repeat (first | exact (Kd.zkc HR2_1.out HB.out) | (with_reducible refine Kd.zrb ?_ _) | (with_reducible refine Kd.zqb ?_ _) | (with_reducible refine Kd.zmc ?_))); (case side4 => exact HC2_1.out); (case side5 => repeat (first | exact (Kd.zkc HR0.out HB.out) | (with_reducible refine Kd.zrb ?_ _) | (with_reducible refine Kd.zqb ?_ _) | (with_reducible refine Kd.zmc ?_))); (case side6 => exact HC0.out); (case side7 => (with_reducible repeat (first | refine zga ?_ _ | refine zha ?_ | refine zfa ?_ _)); exact BK2.out); (case side8 => (with_reducible repeat (first | refine zga ?_ _ | refine zha ?_ | refine zfa ?_ _)); exact BK321.out); (case side9 => exact NB2_321.out); rintro e w9 ⟨rfl, hb⟩; refine ⟨_, rfl, ?_⟩; replace BK1 := zaa.mk (zna (g := g1_) (o := .cells #[.slice A1_0 l1_0.length c1_0] 57 (0, 0)) (by (with_reducible repeat (first | refine zga ?_ _ | refine zha ?_ | refine zfa ?_ _)); exact BK1.out) hb); replace BK2 := zaa.mk (zna (g := g2_) (o := .cells #[.int .i64 a2_0, .slice A2_1 l2_1.length c2_1] 66 (0, 0)) (by (with_reducible repeat (first | refine zga ?_ _ | refine zha ?_ | refine zfa ?_ _)); exact BK2.out) hb); replace BK321 := zaa.mk (zna (g := gb321) (o := .cells #[.slice A0 l0.length c0] 33 (0, 0)) (by (with_reducible repeat (first | refine zga ?_ _ | refine zha ?_ | refine zfa ?_ _)); exact BK321.out) hb); replace HB := zaa.mk (zma (by repeat (first | (with_reducible first | exact HB.out | apply zda | apply zba | apply zca | refine zea ?_ GE1.out | refine zea ?_ GE2.out | refine zea ?_ GE321.out) | exact HB.out)) hb); (try clear hb); (try clear hb2); (try clear hk); (try clear hi)))
 go_ret
 exact ⟨by first | rfl | (simp [zwa, zva] <;> rfl) | (simp [*, zwa, zva] <;> rfl), by repeat (first | (with_reducible first | exact HB.out | apply zda | apply zba | apply zca | refine zea ?_ GE1.out | refine zea ?_ GE2.out | refine zea ?_ GE321.out) | exact HB.out)⟩
end Go.Proofs.YtoacbkoenkiahaaGreat.PTopGluePlate
end
section
namespace Go.Proofs.YtoacbkoenkiahaaGreat.PTopGluePlate
open Go.RowKit Go.Proofs.YtoacbkoenkiahaaGreatW.PrintWords Go.Proofs.YtoacbkoenkiahaaGreatW.PrintLast Go.Proofs.YtoacbkoenkiahaaGreatW.PrintMore
attribute [local go_sem] znb zlb zhc zgc zeb zdb zmb zkb
set_option linter.unusedVariables false
set_option linter.unusedSimpArgs false
def zac.f (k : Nat) (a0_0 : Int) (l0_1 : List Int) (l1 : List Int) (l2_0 : List (S59)) (a3_0 : Int) (l3_1 : List Int) : Option (List (List (S32))) := (zhb.f k a0_0 l0_1 l1).bind fun ls => filterO (fun (x : List (S32)) => glue_explained_1.f k x l2_0 a3_0 l3_1) ls
set_option maxHeartbeats 2000000 in
theorem zac.calls (k : Nat) (a0_0 : Int) (A0_1 : Option Addr) (c0_1 : Nat) (l0_1 : List Int) (A1 : Option Addr) (c1 : Nat) (l1 : List Int) (g2_ : Nat) (A2_0 : Option Addr) (c2_0 : Nat) (l2_0 : List (S59)) (g3_ : Nat) (a3_0 : Int) (A3_1 : Option Addr) (c3_1 : Nat) (l3_1 : List Int) (r : List (List (S32))) (w : World) (hr0_1 : Kd.C (Kd.int .i64) w A0_1 l0_1.length l0_1) (hc0_1 : l0_1.length ≤ c0_1) (hr1 : Kd.C (Kd.int .i64) w A1 l1.length l1) (hc1 : l1.length ≤ c1) (hr2_0 : Kd.C k59 w A2_0 l2_0.length l2_0) (hc2_0 : l2_0.length ≤ c2_0) (hr3_1 : Kd.C (Kd.int .i64) w A3_1 l3_1.length l3_1) (hc3_1 : l3_1.length ≤ c3_1) (hbx2 : w.heap[g2_]? = some (.cells #[.slice A2_0 l2_0.length c2_0] 57 (0, 0))) (hbx3 : w.heap[g3_]? = some (.cells #[.int .i64 a3_0, .slice A3_1 l3_1.length c3_1] 66 (0, 0))) (hnx2_3 : g2_ ≠ g3_) (h : zac.f k a0_0 l0_1 l1 l2_0 a3_0 l3_1 = some r) :
 Calls Tryz.prog 49 #[.agg #[.int .i64 a0_0, .slice A0_1 l0_1.length c0_1], .slice A1 l1.length c1] w fun e w1 => ∃ (As : Option Addr) (cs : Nat) (ls : List (List (S32))), e = .returned (.slice As ls.length cs) ∧ Calls Tryz.prog 48 #[.slice As ls.length cs, .func (.func 50) #[] #[.pointer (some ⟨g2_, 0, none⟩), .pointer (some ⟨g3_, 0, none⟩)]] w1 fun e w' => ∃ v0_ : Value, e = .returned v0_ ∧ Kd.V (Kd.slice 32 k32) 33 w' w.heap.size (fun k_ => w.heap.size ≤ k_) v0_ r ∧ Below w.heap.size w w' := by
 have eg : ∀ args w, (callFunc 50 args).run Tryz.prog w = .ok (.enter 50 args) w := enters_of Tryz.func50 (by kernel_rfl) rfl
 unfold zac.f at h
 cases hs : zhb.f k a0_0 l0_1 l1 with
 | none => rw [hs] at h; cases h
 | some ls =>
 rw [hs] at h
 simp only [Option.bind_some] at h
 refine (zhb.calls k a0_0 _ _ l0_1 _ _ l1 ls w hr0_1 hc0_1 hr1 hc1 hs).mono ?_
 rintro e w1 ⟨v0_, rfl, hS, hb⟩
 obtain ⟨As, cs, rfl⟩ := Kd.S_slice hS
 refine ⟨As, cs, ls, rfl, ?_⟩
 refine slices_DeleteFunc_sl_api_GlueCause.calls 50 #[.pointer (some ⟨g2_, 0, none⟩), .pointer (some ⟨g3_, 0, none⟩)] (fun (x : List (S32)) => glue_explained_1.f k x l2_0 a3_0 l3_1) _ As cs ls r w w1 hS hb eg ?_ h
 intro W x A_ c_ hx hA_ hc_ hW b hb_
 refine (glue_explained_1.calls k A_ c_ x g2_ _ _ l2_0 g3_ a3_0 _ _ l3_1 b W hA_ hc_ (Kd.zkc hr2_0 hW) hc2_0 (Kd.zkc hr3_1 hW) hc3_1 ((hW.block _ (zbc hbx2)).trans hbx2) ((hW.block _ (zbc hbx3)).trans hbx3) hnx2_3 hb_).mono ?_
 rintro e w' ⟨rfl, hd⟩
 exact ⟨rfl, hd⟩
def glue_explained.f (k : Nat) (a0_0 : Int) (l0_1 : List Int) (l1 : List Int) (l2 : List (S59)) : Option (Int × List Int × (List (List (S32))) × Int) := (glue_open.f a0_0 l0_1).bind fun bt326 => (if bt326.2.2 = 0 then ((zua.f k bt326.1 bt326.2.1 l1 l2).bind fun t331 => (if t331 = 0 then ((zac.f k bt326.1 bt326.2.1 l1 l2 bt326.1 bt326.2.1).bind fun t332 => (if (t332.length : Int) = 0 then (none) else (some (bt326.1, bt326.2.1, t332, 0)))) else (none))) else (none))
set_option maxHeartbeats 8000000 in
set_option maxRecDepth 100000 in
theorem glue_explained.calls (k : Nat) (a0_0 : Int) (P0_1_ : Nat → Prop) (A0_1 : Option Addr) (c0_1 : Nat) (l0_1 : List Int) (A1 : Option Addr) (c1 : Nat) (l1 : List Int) (A2 : Option Addr) (c2 : Nat) (l2 : List (S59)) (r1 : Int) (r2 : List Int) (r3 : List (List (S32))) (r4 : Int) (w : World) (hs0_1 : Kd.V (Kd.int .i64) 3 w w.heap.size (fun k_ => P0_1_ k_) (.slice A0_1 l0_1.length c0_1) l0_1) (hr1 : Kd.C (Kd.int .i64) w A1 l1.length l1) (hc1 : l1.length ≤ c1) (hr2 : Kd.C k59 w A2 l2.length l2) (hc2 : l2.length ≤ c2) (h : glue_explained.f k a0_0 l0_1 l1 l2 = some (r1, r2, r3, r4)) :
 Calls Tryz.prog 30 #[.agg #[.int .i64 a0_0, .slice A0_1 l0_1.length c0_1], .slice A1 l1.length c1, .slice A2 l2.length c2] w fun e w' => ∃ v1_ v2_ : Value, e = .returned (.tuple #[.agg #[.int .i64 r1, v1_], v2_, .int .i64 r4]) ∧ Kd.V (Kd.int .i64) 3 w' w.heap.size (fun k_ => (P0_1_ k_ ∨ w.heap.size ≤ k_)) v1_ r2 ∧ Kd.V (Kd.slice 32 k32) 33 w' w.heap.size (fun k_ => (P0_1_ k_ ∨ w.heap.size ≤ k_)) v2_ r3 ∧ Below w.heap.size w w' := by
 have hu29 := Tryz.underlying29
 have hu66 := Tryz.underlying66
 have HO0_1 := zaa.mk (show Kd.V (Kd.int .i64) 3 w w.heap.size (fun k_ => (P0_1_ k_ ∨ w.heap.size ≤ k_)) (.slice A0_1 l0_1.length c0_1) l0_1 from Kd.zcc hs0_1 (fun k_ hk => .inl hk))
 have HR1 := zaa.mk hr1
 have HC1 := zaa.mk hc1
 clear hr1 hc1
 have HR2 := zaa.mk hr2
 have HC2 := zaa.mk hc2
 clear hr2 hc2
 have HB := zaa.mk (Below.refl w.heap.size w)
 have H : ((glue_open.f a0_0 l0_1).bind fun bt326 => (if bt326.2.2 = 0 then ((zua.f k bt326.1 bt326.2.1 l1 l2).bind fun t331 => (if t331 = 0 then ((zac.f k bt326.1 bt326.2.1 l1 l2 bt326.1 bt326.2.1).bind fun t332 => (if (t332.length : Int) = 0 then (none) else (some (bt326.1, bt326.2.1, t332, 0)))) else (none))) else (none))) = some (r1, r2, r3, r4) := h
 clear h
 replace H := Option.bind_eq_some_iff.mp H
 obtain ⟨⟨t326, t327, t330⟩, A40, H⟩ := H
 replace H : (if t330 = 0 then ((zua.f k t326 t327 l1 l2).bind fun t331 => (if t331 = 0 then ((zac.f k t326 t327 l1 l2 t326 t327).bind fun t332 => (if (t332.length : Int) = 0 then (none) else (some (t326, t327, t332, 0)))) else (none))) else (none)) = some (r1, r2, r3, r4) := H
 have A4 := zaa.mk A40
 clear A40
 by_cases c5 : t330 = 0
 · rw [if_pos c5] at H
   have c5b0 : (t330 == 0) = true := beq_iff_eq.mpr c5
   have c5b1 : (t330 != 0) = false := bne_eq_false_iff_eq.mpr c5
   clear c5
   replace H := Option.bind_eq_some_iff.mp H
   obtain ⟨t331, A60, H⟩ := H
   replace H : (if t331 = 0 then ((zac.f k t326 t327 l1 l2 t326 t327).bind fun t332 => (if (t332.length : Int) = 0 then (none) else (some (t326, t327, t332, 0)))) else (none)) = some (r1, r2, r3, r4) := H
   have A6 := zaa.mk A60
   clear A60
   by_cases c7 : t331 = 0
   · rw [if_pos c7] at H
     have c7b0 : (t331 == 0) = true := beq_iff_eq.mpr c7
     have c7b1 : (t331 != 0) = false := bne_eq_false_iff_eq.mpr c7
     clear c7
     replace H := Option.bind_eq_some_iff.mp H
     obtain ⟨t332, A80, H⟩ := H
     replace H : (if (t332.length : Int) = 0 then (none) else (some (t326, t327, t332, 0))) = some (r1, r2, r3, r4) := H
     have A8 := zaa.mk A80
     clear A80
     by_cases c9 : (t332.length : Int) = 0
     · rw [if_pos c9] at H
       have c9b0 : ((t332.length : Int) == 0) = true := beq_iff_eq.mpr c9
       have c9b1 : ((t332.length : Int) != 0) = false := bne_eq_false_iff_eq.mpr c9
       clear c9
       exact absurd H (by simp)
     · rw [if_neg c9] at H
       have c9b0 : ((t332.length : Int) == 0) = false := beq_eq_false_iff_ne.mpr c9
       have c9b1 : ((t332.length : Int) != 0) = true := bne_iff_ne.mpr c9
       have c9b2 : ¬ (t332 = []) := fun h_ => c9 (by rw [h_]; rfl)
       simp only [Option.some.injEq, Prod.mk.injEq] at H
       obtain ⟨rfl, rfl, rfl, rfl⟩ := H
       go_enter Tryz.func30, Tryz.ntmps30
       go_wp2_with (first | ((with_reducible refine zbb (N := 3) rfl ?_); refine zob ?hg (N := 3) ?hd (cs := #[.int .i64 a0_0, .slice A0_1 l0_1.length c0_1]) (t := 29) ?hr ?_; (case hd => rfl); (case hg => rfl); (case hr => first | (go_simp; done) | (go_simp; rfl)); intro gb323 hg w10 hbox hb; replace HO0_1 := zaa.mk (Kd.zqc (Kd.zld (by (with_reducible repeat (first | apply Kd.zza | apply Kd.zya | apply Kd.zib)); exact HO0_1.out) gb323 (Nat.le_of_eq hg.symm)) hb); have BK323 := zaa.mk (hbox); have GW323 := zaa.mk ((by rw [hg]; exact (zja (by repeat (first | (with_reducible first | exact HB.out | apply zda | apply zba | apply zca) | exact HB.out))) : w.heap.size ≤ gb323)); have GE323 := zaa.mk ((by rw [hg]; exact (zja (by repeat (first | (with_reducible first | exact HB.out | apply zda | apply zba | apply zca) | exact HB.out))) : w.heap.size ≤ gb323)); replace HB := zaa.mk (zma (by repeat (first | (with_reducible first | exact HB.out | apply zda | apply zba | apply zca) | exact HB.out)) hb); clear hb hbox hg) | ((with_reducible refine zbb (N := 5) rfl ?_); refine zob ?hg (N := 5) ?hd (cs := #[.slice A2 l2.length c2]) (t := 57) ?hr ?_; (case hd => rfl); (case hg => rfl); (case hr => first | (go_simp; done) | (go_simp; rfl)); intro gb324 hg w11 hbox hb; replace HO0_1 := zaa.mk (Kd.zqc (Kd.zld (by (with_reducible repeat (first | apply Kd.zza | apply Kd.zya | apply Kd.zib)); exact HO0_1.out) gb324 (Nat.le_of_eq hg.symm)) hb); have BK324 := zaa.mk (hbox); have GW324 := zaa.mk ((by rw [hg]; exact (zja (by repeat (first | (with_reducible first | exact HB.out | apply zda | apply zba | apply zca | refine zea ?_ GE323.out) | exact HB.out))) : w.heap.size ≤ gb324)); have GE324 := zaa.mk ((by rw [hg]; exact (zja (by repeat (first | (with_reducible first | exact HB.out | apply zda | apply zba | apply zca | refine zea ?_ GE323.out) | exact HB.out))) : w.heap.size ≤ gb324)); replace HB := zaa.mk (zma (by repeat (first | (with_reducible first | exact HB.out | apply zda | apply zba | apply zca | refine zea ?_ GE323.out) | exact HB.out)) hb); have NB323_324 := zaa.mk ((by rw [hg]; exact Nat.ne_of_lt (zbc (g := gb323) (o := .cells #[.int .i64 a0_0, .slice A0_1 l0_1.length c0_1] 29 (0, 0)) (by (with_reducible repeat (first | refine zga ?_ _ | refine zha ?_ | refine zfa ?_ _)); exact BK323.out)) : gb323 ≠ gb324)); have NB324_323 := zaa.mk ((by rw [hg]; exact Nat.ne_of_gt (zbc (g := gb323) (o := .cells #[.int .i64 a0_0, .slice A0_1 l0_1.length c0_1] 29 (0, 0)) (by (with_reducible repeat (first | refine zga ?_ _ | refine zha ?_ | refine zfa ?_ _)); exact BK323.out)) : gb324 ≠ gb323)); replace BK323 := zaa.mk (zna (g := gb323) (o := .cells #[.int .i64 a0_0, .slice A0_1 l0_1.length c0_1] 29 (0, 0)) (by (with_reducible repeat (first | refine zga ?_ _ | refine zha ?_ | refine zfa ?_ _)); exact BK323.out) hb); clear hb hbox hg) | ((with_reducible refine zbb (N := 6) rfl ?_); refine zob ?hg (N := 6) ?hd (cs := #[.int .i64 0, .slice none 0 0]) (t := 66) ?hr ?_; (case hd => rfl); (case hg => rfl); (case hr => first | (go_simp; done) | (go_simp; rfl)); intro gb325 hg w12 hbox hb; replace HO0_1 := zaa.mk (Kd.zqc (Kd.zld (by (with_reducible repeat (first | apply Kd.zza | apply Kd.zya | apply Kd.zib)); exact HO0_1.out) gb325 (Nat.le_of_eq hg.symm)) hb); have BK325 := zaa.mk (hbox); have GW325 := zaa.mk ((by rw [hg]; exact (zja (by repeat (first | (with_reducible first | exact HB.out | apply zda | apply zba | apply zca | refine zea ?_ GE323.out | refine zea ?_ GE324.out) | exact HB.out))) : w.heap.size ≤ gb325)); have GE325 := zaa.mk ((by rw [hg]; exact (zja (by repeat (first | (with_reducible first | exact HB.out | apply zda | apply zba | apply zca | refine zea ?_ GE323.out | refine zea ?_ GE324.out) | exact HB.out))) : w.heap.size ≤ gb325)); replace HB := zaa.mk (zma (by repeat (first | (with_reducible first | exact HB.out | apply zda | apply zba | apply zca | refine zea ?_ GE323.out | refine zea ?_ GE324.out) | exact HB.out)) hb); have NB323_325 := zaa.mk ((by rw [hg]; exact Nat.ne_of_lt (zbc (g := gb323) (o := .cells #[.int .i64 a0_0, .slice A0_1 l0_1.length c0_1] 29 (0, 0)) (by (with_reducible repeat (first | refine zga ?_ _ | refine zha ?_ | refine zfa ?_ _)); exact BK323.out)) : gb323 ≠ gb325)); have NB325_323 := zaa.mk ((by rw [hg]; exact Nat.ne_of_gt (zbc (g := gb323) (o := .cells #[.int .i64 a0_0, .slice A0_1 l0_1.length c0_1] 29 (0, 0)) (by (with_reducible repeat (first | refine zga ?_ _ | refine zha ?_ | refine zfa ?_ _)); exact BK323.out)) : gb325 ≠ gb323)); replace BK323 := zaa.mk (zna (g := gb323) (o := .cells #[.int .i64 a0_0, .slice A0_1 l0_1.length c0_1] 29 (0, 0)) (by (with_reducible repeat (first | refine zga ?_ _ | refine zha ?_ | refine zfa ?_ _)); exact BK323.out) hb); have NB324_325 := zaa.mk ((by rw [hg]; exact Nat.ne_of_lt (zbc (g := gb324) (o := .cells #[.slice A2 l2.length c2] 57 (0, 0)) (by (with_reducible repeat (first | refine zga ?_ _ | refine zha ?_ | refine zfa ?_ _)); exact BK324.out)) : gb324 ≠ gb325)); have NB325_324 := zaa.mk ((by rw [hg]; exact Nat.ne_of_gt (zbc (g := gb324) (o := .cells #[.slice A2 l2.length c2] 57 (0, 0)) (by (with_reducible repeat (first | refine zga ?_ _ | refine zha ?_ | refine zfa ?_ _)); exact BK324.out)) : gb325 ≠ gb324)); replace BK324 := zaa.mk (zna (g := gb324) (o := .cells #[.slice A2 l2.length c2] 57 (0, 0)) (by (with_reducible repeat (first | refine zga ?_ _ | refine zha ?_ | refine zfa ?_ _)); exact BK324.out) hb); clear hb hbox hg; have hnb13 := NB323_324.out; have hnc13 := NB324_323.out; have hnb14 := NB323_325.out; have hnc14 := NB325_323.out; have hcz15_0 : w12.cell? ⟨gb323, 0, none⟩ = some (.int .i64 a0_0) := (zla BK323.out 0).trans rfl; have hcz15_1 : w12.cell? ⟨gb323, 1, none⟩ = some (.slice A0_1 l0_1.length c0_1) := (zla BK323.out 1).trans rfl; have hfz15_0 := zka BK323.out 0; have hfz15_1 := zka BK323.out 1) | ((with_reducible refine zxa (f := 32) rfl ?_); refine zhd (some 12) rfl rfl Tryz.func32 (by kernel_rfl) rfl #[.agg #[.int .i64 a0_0, .slice A0_1 l0_1.length c0_1]] rfl (by (try simp only [List.map_toArray, List.map_cons, List.map_nil]); first | done | rfl | (simp only [List.length_drop, List.length_take]; rfl)) ?_; (with_reducible refine (glue_open.calls a0_0 (fun k_ => ((((P0_1_ k_ ∨ w.heap.size ≤ k_) ∧ k_ ≠ gb323) ∧ k_ ≠ gb324) ∧ k_ ≠ gb325)) _ _ l0_1 t326 t327 t330 _ ?side1 A4.out).mono ?_); (case side1 => exact HO0_1.out); rintro e w16 ⟨v328, rfl, ho0, hb⟩; refine ⟨_, rfl, ?_⟩; replace HO0_1 := zaa.mk (Kd.zqc (by (with_reducible repeat (first | apply Kd.zza | apply Kd.zya | apply Kd.zib)); exact HO0_1.out) hb); have HO329 := zaa.mk (Kd.V_lower (Kd.zcc (ok' := fun k_ => (P0_1_ k_ ∨ w.heap.size ≤ k_) ∧ k_ ≠ gb323 ∧ k_ ≠ gb324 ∧ k_ ≠ gb325) ho0 (fun k_ hk_ => ⟨Or.elim hk_ (fun hs_ => hs_.1.1.1) (fun hn_ => (.inr (Nat.le_trans (zja (by repeat (first | (with_reducible first | exact HB.out | apply zda | apply zba | apply zca | refine zea ?_ GE323.out | refine zea ?_ GE324.out | refine zea ?_ GE325.out) | exact HB.out))) hn_))), Or.elim hk_ (fun hs_ => hs_.1.1.2) (fun hn_ => (Kd.freshB (g := gb323) (o := .cells #[.int .i64 a0_0, .slice A0_1 l0_1.length c0_1] 29 (0, 0)) (by (with_reducible repeat (first | refine zga ?_ _ | refine zha ?_ | refine zfa ?_ _)); exact BK323.out) k_ hn_)), Or.elim hk_ (fun hs_ => hs_.1.2) (fun hn_ => (Kd.freshB (g := gb324) (o := .cells #[.slice A2 l2.length c2] 57 (0, 0)) (by (with_reducible repeat (first | refine zga ?_ _ | refine zha ?_ | refine zfa ?_ _)); exact BK324.out) k_ hn_)), Or.elim hk_ (fun hs_ => hs_.2) (fun hn_ => (Kd.freshB (g := gb325) (o := .cells #[.int .i64 0, .slice none 0 0] 66 (0, 0)) (by (with_reducible repeat (first | refine zga ?_ _ | refine zha ?_ | refine zfa ?_ _)); exact BK325.out) k_ hn_))⟩)) (zja (by repeat (first | (with_reducible first | exact HB.out | apply zda | apply zba | apply zca | refine zea ?_ GE323.out | refine zea ?_ GE324.out | refine zea ?_ GE325.out) | exact HB.out)))); replace BK323 := zaa.mk (zna (g := gb323) (o := .cells #[.int .i64 a0_0, .slice A0_1 l0_1.length c0_1] 29 (0, 0)) (by (with_reducible repeat (first | refine zga ?_ _ | refine zha ?_ | refine zfa ?_ _)); exact BK323.out) hb); replace BK324 := zaa.mk (zna (g := gb324) (o := .cells #[.slice A2 l2.length c2] 57 (0, 0)) (by (with_reducible repeat (first | refine zga ?_ _ | refine zha ?_ | refine zfa ?_ _)); exact BK324.out) hb); replace BK325 := zaa.mk (zna (g := gb325) (o := .cells #[.int .i64 0, .slice none 0 0] 66 (0, 0)) (by (with_reducible repeat (first | refine zga ?_ _ | refine zha ?_ | refine zfa ?_ _)); exact BK325.out) hb); replace HB := zaa.mk (zma (by repeat (first | (with_reducible first | exact HB.out | apply zda | apply zba | apply zca | refine zea ?_ GE323.out | refine zea ?_ GE324.out | refine zea ?_ GE325.out) | exact HB.out)) hb); (try clear hb); (try clear hb2); (try clear hk); (try clear hi); (try clear ho0); have hnb17 := NB325_324.out; have hnc17 := NB324_325.out; have hcz18_0 : w16.cell? ⟨gb325, 0, none⟩ = some (.int .i64 0) := (zla BK325.out 0).trans rfl; have hcz18_1 : w16.cell? ⟨gb325, 1, none⟩ = some (.slice none 0 0) := (zla BK325.out 1).trans rfl; have hfz18_0 := zka BK325.out 0; have hfz18_1 := zka BK325.out 1; obtain ⟨Ao19, co19, eo19⟩ := Kd.V_slice HO329.out; subst eo19; have hcz20_0 : w16.cell? ⟨gb324, 0, none⟩ = some (.slice A2 l2.length c2) := (zla BK324.out 0).trans rfl; have hfz20_0 := zka BK324.out 0) | ((with_reducible refine zxa (f := 47) rfl ?_); refine zhd (some 22) rfl rfl Tryz.func47 (by kernel_rfl) rfl #[.agg #[.int .i64 t326, .slice Ao19 t327.length co19], .slice A1 l1.length c1, .slice A2 l2.length c2] rfl (by (try simp only [List.map_toArray, List.map_cons, List.map_nil]); first | done | rfl | (simp only [List.length_drop, List.length_take]; rfl)) ?_; (with_reducible refine (zua.calls k t326 _ _ t327 _ _ l1 _ _ l2 t331 _ ?side1 ?side2 ?side3 ?side4 ?side5 ?side6 A6.out).mono ?_); (case side1 => refine (Kd.zwd (e := 3) (base := w.heap.size) (ok := fun k_ => ((P0_1_ k_ ∨ w.heap.size ≤ k_) ∧ (k_ ≠ gb323 ∧ (k_ ≠ gb324 ∧ k_ ≠ gb325)))) (n := t327.length) (c := co19) ?_).2.2; exact (by (with_reducible repeat (first | apply Kd.zza | apply Kd.zya | apply Kd.zib)); exact (Kd.zcc (Kd.zbe (p := ⟨gb325, 1, none⟩) (Kd.zbe (p := ⟨gb325, 0, none⟩) (Kd.zcc HO329.out (fun k_ hk => (⟨hk, hk.2.2.2⟩ : _ ∧ k_ ≠ gb325))) (fun _ hk => hk.2) (.int .i64 t326)) (fun _ hk => hk.2) (.slice Ao19 t327.length co19)) (fun _ h_ => h_.1)))); (case side2 => exact (Kd.zwd HO329.out).2.1); (case side3 => exact Kd.zkc HR1.out (by repeat (first | (with_reducible first | exact HB.out | apply zda | apply zba | apply zca | refine zea ?_ GE323.out | refine zea ?_ GE324.out | refine zea ?_ GE325.out) | exact HB.out))); (case side4 => exact HC1.out); (case side5 => exact Kd.zkc HR2.out (by repeat (first | (with_reducible first | exact HB.out | apply zda | apply zba | apply zca | refine zea ?_ GE323.out | refine zea ?_ GE324.out | refine zea ?_ GE325.out) | exact HB.out))); (case side6 => exact HC2.out); rintro e w21 ⟨rfl, hb⟩; refine ⟨_, rfl, ?_⟩; replace HO0_1 := zaa.mk (Kd.zqc (by (with_reducible repeat (first | apply Kd.zza | apply Kd.zya | apply Kd.zib)); exact (Kd.zcc (Kd.zbe (p := ⟨gb325, 1, none⟩) (Kd.zbe (p := ⟨gb325, 0, none⟩) (Kd.zcc HO0_1.out (fun k_ hk => (⟨hk, hk.2⟩ : _ ∧ k_ ≠ gb325))) (fun _ hk => hk.2) (.int .i64 t326)) (fun _ hk => hk.2) (.slice Ao19 t327.length co19)) (fun _ h_ => h_.1))) hb); replace HO329 := zaa.mk (Kd.zqc (by (with_reducible repeat (first | apply Kd.zza | apply Kd.zya | apply Kd.zib)); exact (Kd.zcc (Kd.zbe (p := ⟨gb325, 1, none⟩) (Kd.zbe (p := ⟨gb325, 0, none⟩) (Kd.zcc HO329.out (fun k_ hk => (⟨hk, hk.2.2.2⟩ : _ ∧ k_ ≠ gb325))) (fun _ hk => hk.2) (.int .i64 t326)) (fun _ hk => hk.2) (.slice Ao19 t327.length co19)) (fun _ h_ => h_.1))) hb); replace BK323 := zaa.mk (zna (g := gb323) (o := .cells #[.int .i64 a0_0, .slice A0_1 l0_1.length c0_1] 29 (0, 0)) (by (with_reducible repeat (first | refine zga ?_ _ | refine zha ?_ | refine zfa ?_ _)); refine zsc ?_ NB323_325.out _; (with_reducible repeat (first | refine zga ?_ _ | refine zha ?_ | refine zfa ?_ _)); refine zsc ?_ NB323_325.out _; (with_reducible repeat (first | refine zga ?_ _ | refine zha ?_ | refine zfa ?_ _)); exact BK323.out) hb); replace BK324 := zaa.mk (zna (g := gb324) (o := .cells #[.slice A2 l2.length c2] 57 (0, 0)) (by (with_reducible repeat (first | refine zga ?_ _ | refine zha ?_ | refine zfa ?_ _)); refine zsc ?_ NB324_325.out _; (with_reducible repeat (first | refine zga ?_ _ | refine zha ?_ | refine zfa ?_ _)); refine zsc ?_ NB324_325.out _; (with_reducible repeat (first | refine zga ?_ _ | refine zha ?_ | refine zfa ?_ _)); exact BK324.out) hb); replace BK325 := zaa.mk (zna (g := gb325) (o := .cells #[.int .i64 t326, .slice Ao19 t327.length co19] 66 (0, 0)) (by (with_reducible repeat (first | refine zga ?_ _ | refine zha ?_ | refine zfa ?_ _)); refine zzc (cs := #[.int .i64 t326, .slice none 0 0]) ?_ 1 _ rfl; (with_reducible repeat (first | refine zga ?_ _ | refine zha ?_ | refine zfa ?_ _)); refine zzc (cs := #[.int .i64 0, .slice none 0 0]) ?_ 0 _ rfl; (with_reducible repeat (first | refine zga ?_ _ | refine zha ?_ | refine zfa ?_ _)); exact BK325.out) hb); replace HB := zaa.mk (zma (by repeat (first | (with_reducible first | exact HB.out | apply zda | apply zba | apply zca | refine zea ?_ GE323.out | refine zea ?_ GE324.out | refine zea ?_ GE325.out) | exact HB.out)) hb); (try clear hb); (try clear hb2); (try clear hk); (try clear hi); have hcz22_0 : w21.cell? ⟨gb325, 0, none⟩ = some (.int .i64 t326) := (zla BK325.out 0).trans rfl; have hcz22_1 : w21.cell? ⟨gb325, 1, none⟩ = some (.slice Ao19 t327.length co19) := (zla BK325.out 1).trans rfl; have hfz22_0 := zka BK325.out 0; have hfz22_1 := zka BK325.out 1) | ((with_reducible refine zxa (f := 49) rfl ?_); refine zhd (some 29) rfl rfl Tryz.func49 (by kernel_rfl) rfl #[.agg #[.int .i64 t326, .slice Ao19 t327.length co19], .slice A1 l1.length c1] rfl (by (try simp only [List.map_toArray, List.map_cons, List.map_nil]); first | done | rfl | (simp only [List.length_drop, List.length_take]; rfl)) ?_; (with_reducible refine (zac.calls k t326 _ _ t327 _ _ l1 gb324 A2 c2 l2 gb325 t326 Ao19 co19 t327 t332 _ ?side1 ?side2 ?side3 ?side4 ?side5 ?side6 ?side7 ?side8 ?side9 ?side10 ?side11 A8.out).mono ?_); (case side1 => repeat (first | exact (Kd.zwd HO329.out).2.2 | (with_reducible refine Kd.zrb ?_ _) | (with_reducible refine Kd.zqb ?_ _) | (with_reducible refine Kd.zmc ?_))); (case side2 => exact (Kd.zwd HO329.out).2.1); (case side3 => repeat (first | exact (Kd.zkc HR1.out HB.out) | (with_reducible refine Kd.zrb ?_ _) | (with_reducible refine Kd.zqb ?_ _) | (with_reducible refine Kd.zmc ?_))); (case side4 => exact HC1.out); (case side5 => repeat (first | exact (Kd.zkc HR2.out HB.out) | (with_reducible refine Kd.zrb ?_ _) | (with_reducible refine Kd.zqb ?_ _) | (with_reducible refine Kd.zmc ?_))); (case side6 => exact HC2.out); (case side7 => repeat (first | exact (Kd.zwd HO329.out).2.2 | (with_reducible refine Kd.zrb ?_ _) | (with_reducible refine Kd.zqb ?_ _) | (with_reducible refine Kd.zmc ?_))); (case side8 => exact (Kd.zwd HO329.out).2.1); (case side9 => (with_reducible repeat (first | refine zga ?_ _ | refine zha ?_ | refine zfa ?_ _)); exact BK324.out); (case side10 => (with_reducible repeat (first | refine zga ?_ _ | refine zha ?_ | refine zfa ?_ _)); exact BK325.out); (case side11 => exact NB324_325.out); rintro e_ W1_ ⟨As_, cs_, ls_, rfl, hdel_⟩; refine ⟨_, rfl, ?_⟩; have HDEL_ := zaa.mk hdel_; clear hdel_) | ((with_reducible refine zxa (f := 48) rfl ?_); refine zhd (some 31) rfl rfl Tryz.func48 (by kernel_rfl) rfl #[.slice As_ ls_.length cs_, .func (.func 50) #[] #[.pointer (some ⟨gb324, 0, none⟩), .pointer (some ⟨gb325, 0, none⟩)]] rfl (by (try simp only [List.map_toArray, List.map_cons, List.map_nil]); first | done | rfl | (simp only [List.length_drop, List.length_take]; rfl)) ?_; (with_reducible refine HDEL_.out.mono ?_); rintro e w23 ⟨v333, rfl, ho0, hb⟩; refine ⟨_, rfl, ?_⟩; replace HO0_1 := zaa.mk (Kd.zqc (by (with_reducible repeat (first | apply Kd.zza | apply Kd.zya | apply Kd.zib)); exact HO0_1.out) hb); replace HO329 := zaa.mk (Kd.zqc (by (with_reducible repeat (first | apply Kd.zza | apply Kd.zya | apply Kd.zib)); exact HO329.out) hb); have HO334 := zaa.mk (Kd.V_lower (Kd.zcc (ok' := fun k_ => (P0_1_ k_ ∨ w.heap.size ≤ k_) ∧ k_ ≠ gb323 ∧ k_ ≠ gb324 ∧ k_ ≠ gb325) ho0 (fun k_ hk_ => ⟨(.inr (Nat.le_trans (zja (by repeat (first | (with_reducible first | exact HB.out | apply zda | apply zba | apply zca | refine zea ?_ GE323.out | refine zea ?_ GE324.out | refine zea ?_ GE325.out) | exact HB.out))) hk_)), (Kd.freshB (g := gb323) (o := .cells #[.int .i64 a0_0, .slice A0_1 l0_1.length c0_1] 29 (0, 0)) (by (with_reducible repeat (first | refine zga ?_ _ | refine zha ?_ | refine zfa ?_ _)); exact BK323.out) k_ hk_), (Kd.freshB (g := gb324) (o := .cells #[.slice A2 l2.length c2] 57 (0, 0)) (by (with_reducible repeat (first | refine zga ?_ _ | refine zha ?_ | refine zfa ?_ _)); exact BK324.out) k_ hk_), (Kd.freshB (g := gb325) (o := .cells #[.int .i64 t326, .slice Ao19 t327.length co19] 66 (0, 0)) (by (with_reducible repeat (first | refine zga ?_ _ | refine zha ?_ | refine zfa ?_ _)); exact BK325.out) k_ hk_)⟩)) (zja (by repeat (first | (with_reducible first | exact HB.out | apply zda | apply zba | apply zca | refine zea ?_ GE323.out | refine zea ?_ GE324.out | refine zea ?_ GE325.out) | exact HB.out)))); replace BK323 := zaa.mk (zna (g := gb323) (o := .cells #[.int .i64 a0_0, .slice A0_1 l0_1.length c0_1] 29 (0, 0)) (by (with_reducible repeat (first | refine zga ?_ _ | refine zha ?_ | refine zfa ?_ _)); exact BK323.out) hb); replace BK324 := zaa.mk (zna (g := gb324) (o := .cells #[.slice A2 l2.length c2] 57 (0, 0)) (by (with_reducible repeat (first | refine zga ?_ _ | refine zha ?_ | refine zfa ?_ _)); exact BK324.out) hb); replace BK325 := zaa.mk (zna (g := gb325) (o := .cells #[.int .i64 t326, .slice Ao19 t327.length co19] 66 (0, 0)) (by (with_reducible repeat (first | refine zga ?_ _ | refine zha ?_ | refine zfa ?_ _)); exact BK325.out) hb); replace HB := zaa.mk (zma (by repeat (first | (with_reducible first | exact HB.out | apply zda | apply zba | apply zca | refine zea ?_ GE323.out | refine zea ?_ GE324.out | refine zea ?_ GE325.out) | exact HB.out)) hb); (try clear hb); (try clear hb2); (try clear hk); (try clear hi); (try clear ho0); obtain ⟨Ao24, co24, eo24⟩ := Kd.V_slice HO334.out; subst eo24; have hcz25_0 : w23.cell? ⟨gb325, 0, none⟩ = some (.int .i64 t326) := (zla BK325.out 0).trans rfl; have hcz25_1 : w23.cell? ⟨gb325, 1, none⟩ = some (.slice Ao19 t327.length co19) := (zla BK325.out 1).trans rfl; have hfz25_0 := zka BK325.out 0; have hfz25_1 := zka BK325.out 1))
       refine bodyPost_ret (results_ctt rfl _ _ gb325 66 #[.int .i64 t326, .slice Ao19 t327.length co19] (0, 0) _ rfl (by (with_reducible repeat (first | refine zga ?_ _ | refine zha ?_ | refine zfa ?_ _)); refine zzc (cs := #[.int .i64 t326, .slice Ao19 t327.length co19]) ?_ 1 _ rfl; (with_reducible repeat (first | refine zga ?_ _ | refine zha ?_ | refine zfa ?_ _)); refine zzc (cs := #[.int .i64 t326, .slice Ao19 t327.length co19]) ?_ 0 _ rfl; (with_reducible repeat (first | refine zga ?_ _ | refine zha ?_ | refine zfa ?_ _)); exact BK325.out) Tryz.underlying66 rfl (by kernel_rfl)) rfl ?_
       exact ⟨_, _, by first | rfl | (simp [zwa, zva] <;> rfl) | (simp [*, zwa, zva] <;> rfl), by (with_reducible repeat (first | apply Kd.zza | apply Kd.zya | apply Kd.zib)); exact Kd.zcc (Kd.zbe (p := ⟨gb325, 1, none⟩) (Kd.zbe (p := ⟨gb325, 0, none⟩) (Kd.zcc HO329.out (fun k_ hk => (⟨hk, hk.2.2.2⟩ : _ ∧ k_ ≠ gb325))) (fun _ hk => hk.2) (.int .i64 t326)) (fun _ hk => hk.2) (.slice Ao19 t327.length co19)) (fun _ hk => hk.1.1), by (with_reducible repeat (first | apply Kd.zza | apply Kd.zya | apply Kd.zib)); exact Kd.zcc (Kd.zbe (p := ⟨gb325, 1, none⟩) (Kd.zbe (p := ⟨gb325, 0, none⟩) (Kd.zcc HO334.out (fun k_ hk => (⟨hk, hk.2.2.2⟩ : _ ∧ k_ ≠ gb325))) (fun _ hk => hk.2) (.int .i64 t326)) (fun _ hk => hk.2) (.slice Ao19 t327.length co19)) (fun _ hk => hk.1.1), by repeat (first | (with_reducible first | exact HB.out | apply zda | apply zba | apply zca | refine zea ?_ GE323.out | refine zea ?_ GE324.out | refine zea ?_ GE325.out) | exact HB.out)⟩
   · rw [if_neg c7] at H
     have c7b0 : (t331 == 0) = false := beq_eq_false_iff_ne.mpr c7
     have c7b1 : (t331 != 0) = true := bne_iff_ne.mpr c7
     exact absurd H (by simp)
 · rw [if_neg c5] at H
   have c5b0 : (t330 == 0) = false := beq_eq_false_iff_ne.mpr c5
   have c5b1 : (t330 != 0) = true := bne_iff_ne.mpr c5
   exact absurd H (by simp)
end Go.Proofs.YtoacbkoenkiahaaGreat.PTopGluePlate
end
