-- written by a program of this session (after the kit's print), not trusted: Lean checks it
import Derived.Test.YtpdcghclcgbcfaaPx0
namespace Go.Proofs.Ytpdcghclcgbcfaa.P
open Go.RowKit Go.Proofs.YtpdcghclcgbcfaaW.PrintWords Go.Proofs.YtpdcghclcgbcfaaW.PrintLast Go.Proofs.YtpdcghclcgbcfaaW.PrintMore
open Go.Proofs.YtpdcghclcgbcfaaW.PrintWords renaming below_alloc → zA, below_drew1 → zC, below_set → zF, below_size → zJ, below_step → zK, blk_cell → zD, blk_frozen → zE, box_event → zN, gate_dst → zM, pw_below_drewN → zB
open Go.Proofs.YtpdcghclcgbcfaaW.PrintWords.Aside0 renaming mk → zm
attribute [local go_sem] max2_int min2_int max_two min_two max_three min_three max_four min_four   -- for this text's walks alone
set_option linter.unusedVariables false
set_option linter.unusedSimpArgs false

/-! ### laws_wLamp: function 20 -/
def laws_wLamp.l0 : Nat→List Bool→Int→Option (Int)
 | 0,_,_=>none
 | k + 1,x0,x1=>if x1 ≥ 0 then (if 0 ≤ x1 then (if x1 < (x0.length : Int) then (if rdOf false x0 x1 = true then (some x1) else (laws_wLamp.l0 k x0 (wrap64 (x1 - 1)))) else (none)) else (none)) else (some x1)
def laws_wLamp.f (k : Nat) (l0 : List Bool) (a1 : Int) : Option (Int):=laws_wLamp.l0 k l0 a1
theorem laws_wLamp.mono_l : ∀ k,(∀ y0 y1,LeO (laws_wLamp.l0 k y0 y1) (laws_wLamp.l0 (k + 1) y0 y1))
 | 0=>fun _ _ r h=>by simp [laws_wLamp.l0] at h
 | k + 1=>by
  have ih0:=laws_wLamp.mono_l k
  ·intro y0 y1
   unfold laws_wLamp.l0
   repeat' first
   | (with_reducible exact ih0 _ _)
   | (with_reducible exact LeO.refl _)
   | (with_reducible exact LeO.none _)
   | (with_reducible refine LeO.ite ?_ ?_)
   | (with_reducible refine LeO.bind ?_ (fun _=>?_))
   | exact ih0 _ _
   | exact LeO.none _
   | refine LeO.ite ?_ ?_
   | refine LeO.bind ?_ (fun _=>?_)
theorem laws_wLamp.mono : ∀ a0 a1 k,LeO (laws_wLamp.f k a0 a1) (laws_wLamp.f (k + 1) a0 a1):=by
 intro a0 a1 k
 have ih0:=laws_wLamp.mono_l k;unfold laws_wLamp.f
 repeat' first
   | (with_reducible exact ih0 _ _)
   | (with_reducible exact LeO.refl _)
   | (with_reducible exact LeO.none _)
   | (with_reducible refine LeO.ite ?_ ?_)
   | (with_reducible refine LeO.bind ?_ (fun _=>?_))
   | exact ih0 _ _
   | exact LeO.none _
   | refine LeO.ite ?_ ?_
   | refine LeO.bind ?_ (fun _=>?_)
set_option maxHeartbeats 8000000 in
set_option maxRecDepth 100000 in
theorem laws_wLamp.calls (k : Nat) (A0 : Option Addr) (c0 : Nat) (l0 : List Bool) (a1 : Int) (r : Int) (w : World) (hr0 : Kd.C Kd.bool w A0 l0.length l0) (hc0 : l0.length ≤ c0) (h : laws_wLamp.f k l0 a1 = some r) :
  Calls Try.prog 20 #[.slice A0 l0.length c0,.int .i64 a1] w fun e w'=>e = .returned (.int .i64 r)∧Drawn0 w w':=by
 have HR0:=zm hr0;have HC0:=zm hc0;clear hr0 hc0;have H : (laws_wLamp.l0 k l0 a1) = some r:=h;clear h;have H':=zm H;clear H;go_enter Try.func20,Try.ntmps20
 go_wp2;go_loopg [1] k (fun kq v1 w'=>∃ (x1_1 : Int),v1 = .int .i64 x1_1∧Aside0 (laws_wLamp.l0 kq l0 x1_1 = some r)∧Aside0 (kq ≤ k)∧Drawn0 w w')
 case atStart=>exact ⟨(a1),(by first|rfl|(simp;done)|(simp [*];done)),H',⟨Nat.le_refl _⟩,by repeat (first|exact Drawn0.refl _|apply Drawn0.step)⟩
 case round =>
  clear H';(try clear c2);(try clear p2);obtain ⟨x1_1,rfl,HA,HK1,⟨m1,rfl⟩⟩:=hrel;cases gk with
  | zero=>exact absurd HA.out (by simp [laws_wLamp.l0])
  | succ k1 =>
   have H:=HA.out;clear HA;simp only [laws_wLamp.l0] at H
   by_cases c3 : x1_1 ≥ 0
   ·rw [if_pos c3] at H;have c3b0 : decide (0 ≤ x1_1) = true:=decide_eq_true c3;clear c3;by_cases c4 : 0 ≤ x1_1
    ·rw [if_pos c4] at H;have c4b0 : decide (0 ≤ x1_1) = true:=decide_eq_true c4;clear c4;by_cases c5 : x1_1 < (l0.length : Int)
     ·rw [if_pos c5] at H;have c5b0 : decide (x1_1 < (l0.length : Int)) = true:=decide_eq_true c5;clear c5;obtain ⟨bq6,hbq6⟩ : ∃ b_ : Bool,b_ = (rdOf false l0 x1_1):=⟨_,rfl⟩;replace H : (if bq6 = true then (some x1_1) else (laws_wLamp.l0 k1 l0 (wrap64 (x1_1 - 1)))) = some r:=by rw [← hbq6] at H;exact H
      have Nbq6:=zm hbq6;clear hbq6;by_cases c7 : bq6 = true
      ·subst c7
       have H1 : (some x1_1) = some r:=by rw [if_pos rfl] at H;exact H
       clear H;have H:=H1;clear H1;obtain rfl:=Option.some.inj H;have p260 : 0 ≤ (x1_1 : Int):=of_decide_eq_true (by first|(with_reducible assumption)|assumption)
       have q260 : x1_1 < (l0.length : Int):=of_decide_eq_true (by first|(with_reducible assumption)|assumption)
       obtain ⟨ad260,e260,hx260_0⟩:=Kd.at_bool HR0.out x1_1 p260 q260;(try rw [← Nbq6.out] at hx260_0);cases e260;replace p260:=eq_true p260;replace q260:=eq_true q260;go_wp2;go_ret
       exact ⟨by first|rfl|(simp;done)|(simp [*];done),by repeat (first|exact Drawn0.refl _|apply Drawn0.step)⟩
      ·replace c7:=Bool.eq_false_iff.mpr c7;subst c7
       have H1 : (laws_wLamp.l0 k1 l0 (wrap64 (x1_1 - 1))) = some r:=by rw [if_neg (show ¬ (false = true) by decide)] at H;exact H
       clear H;have H:=H1;clear H1;have H':=zm H;clear H;have p260 : 0 ≤ (x1_1 : Int):=of_decide_eq_true (by first|(with_reducible assumption)|assumption)
       have q260 : x1_1 < (l0.length : Int):=of_decide_eq_true (by first|(with_reducible assumption)|assumption)
       obtain ⟨ad260,e260,hx260_0⟩:=Kd.at_bool HR0.out x1_1 p260 q260;(try rw [← Nbq6.out] at hx260_0);cases e260;replace p260:=eq_true p260;replace q260:=eq_true q260;go_wp2;go_roundg k1
       case measure=>have:=HK1.out;omega
       case rel=>exact ⟨(wrap64 (x1_1 - 1)),(by first|rfl|(simp;done)|(simp [*];done)),H',⟨by have:=HK1.out;omega⟩,by repeat (first|exact Drawn0.refl _|apply Drawn0.step)⟩
     ·rw [if_neg c5] at H;exact absurd H (by simp)
    ·rw [if_neg c4] at H;exact absurd H (by simp)
   ·rw [if_neg c3] at H;have c3b0 : decide (0 ≤ x1_1) = false:=decide_eq_false c3;clear c3;obtain rfl:=Option.some.inj H;go_wp2;go_ret
    exact ⟨by first|rfl|(simp;done)|(simp [*];done),by repeat (first|exact Drawn0.refl _|apply Drawn0.step)⟩

/-! ### laws_wWant: function 21 -/
def laws_wWant.f (l0_0 : List Int) (l0_1 : List Int) (l0_2 : List Bool) (l0_3 : List (List Bool)) (l1 : List Int) (a2 : Int) : Option (Int):=if 0 ≤ a2 then (if a2 < (l0_2.length : Int) then (if rdOf false l0_2 a2 = true then (if a2 < (l0_0.length : Int) then (if (rd l0_0 a2) < 0 then (some 1) else (if 0 ≤ (rd l0_0 a2) then (if (rd l0_0 a2) < (l1.length : Int) then (if (rd l1 (rd l0_0 a2)) ≥ 3 then (some 3) else (some (wrap64 ((rd l1 (rd l0_0 a2)) + 1)))) else (none)) else (none))) else (none)) else (some 0)) else (none)) else (none)
set_option maxHeartbeats 8000000 in
set_option maxRecDepth 100000 in
theorem laws_wWant.calls (A0_0 : Option Addr) (c0_0 : Nat) (l0_0 : List Int) (A0_1 : Option Addr) (c0_1 : Nat) (l0_1 : List Int) (A0_2 : Option Addr) (c0_2 : Nat) (l0_2 : List Bool) (A0_3 : Option Addr) (c0_3 : Nat) (l0_3 : List (List Bool)) (A1 : Option Addr) (c1 : Nat) (l1 : List Int) (a2 : Int) (r : Int) (w : World) (hr0_0 : Kd.C (Kd.int .i64) w A0_0 l0_0.length l0_0) (hc0_0 : l0_0.length ≤ c0_0) (hr0_1 : Kd.C (Kd.int .i64) w A0_1 l0_1.length l0_1) (hc0_1 : l0_1.length ≤ c0_1) (hr0_2 : Kd.C Kd.bool w A0_2 l0_2.length l0_2) (hc0_2 : l0_2.length ≤ c0_2) (hr0_3 : Kd.C (Kd.slice 4 Kd.bool) w A0_3 l0_3.length l0_3) (hc0_3 : l0_3.length ≤ c0_3) (hr1 : Kd.C (Kd.int .i64) w A1 l1.length l1) (hc1 : l1.length ≤ c1) (h : laws_wWant.f l0_0 l0_1 l0_2 l0_3 l1 a2 = some r) :
  Calls Try.prog 21 #[.agg #[.slice A0_0 l0_0.length c0_0,.slice A0_1 l0_1.length c0_1,.slice A0_2 l0_2.length c0_2,.slice A0_3 l0_3.length c0_3],.slice A1 l1.length c1,.int .i64 a2] w fun e w'=>e = .returned (.int .i64 r)∧Below w.heap.size w w':=by
 have hu27:=Try.underlying27;have HR0_0:=zm hr0_0;have HC0_0:=zm hc0_0;clear hr0_0 hc0_0;have HR0_1:=zm hr0_1;have HC0_1:=zm hc0_1;clear hr0_1 hc0_1;have HR0_2:=zm hr0_2;have HC0_2:=zm hc0_2;clear hr0_2 hc0_2;have HR0_3:=zm hr0_3;have HC0_3:=zm hc0_3;clear hr0_3 hc0_3;have HR1:=zm hr1;have HC1:=zm hc1;clear hr1 hc1;have HB:=zm (Below.refl w.heap.size w);have H : (if 0 ≤ a2 then (if a2 < (l0_2.length : Int) then (if rdOf false l0_2 a2 = true then (if a2 < (l0_0.length : Int) then (if (rd l0_0 a2) < 0 then (some 1) else (if 0 ≤ (rd l0_0 a2) then (if (rd l0_0 a2) < (l1.length : Int) then (if (rd l1 (rd l0_0 a2)) ≥ 3 then (some 3) else (some (wrap64 ((rd l1 (rd l0_0 a2)) + 1)))) else (none)) else (none))) else (none)) else (some 0)) else (none)) else (none)) = some r:=h;clear h;by_cases c4 : 0 ≤ a2
 ·rw [if_pos c4] at H;have c4b0 : decide (0 ≤ a2) = true:=decide_eq_true c4;clear c4;by_cases c5 : a2 < (l0_2.length : Int)
  ·rw [if_pos c5] at H;have c5b0 : decide (a2 < (l0_2.length : Int)) = true:=decide_eq_true c5;clear c5;obtain ⟨bq6,hbq6⟩ : ∃ b_ : Bool,b_ = (rdOf false l0_2 a2):=⟨_,rfl⟩;replace H : (if bq6 = true then (if a2 < (l0_0.length : Int) then (if (rd l0_0 a2) < 0 then (some 1) else (if 0 ≤ (rd l0_0 a2) then (if (rd l0_0 a2) < (l1.length : Int) then (if (rd l1 (rd l0_0 a2)) ≥ 3 then (some 3) else (some (wrap64 ((rd l1 (rd l0_0 a2)) + 1)))) else (none)) else (none))) else (none)) else (some 0)) = some r:=by rw [← hbq6] at H;exact H
   have Nbq6:=zm hbq6;clear hbq6;by_cases c7 : bq6 = true
   ·subst c7
    have H1 : (if a2 < (l0_0.length : Int) then (if (rd l0_0 a2) < 0 then (some 1) else (if 0 ≤ (rd l0_0 a2) then (if (rd l0_0 a2) < (l1.length : Int) then (if (rd l1 (rd l0_0 a2)) ≥ 3 then (some 3) else (some (wrap64 ((rd l1 (rd l0_0 a2)) + 1)))) else (none)) else (none))) else (none)) = some r:=by rw [if_pos rfl] at H;exact H
    clear H;have H:=H1;clear H1;by_cases c8 : a2 < (l0_0.length : Int)
    ·rw [if_pos c8] at H;have c8b0 : decide (a2 < (l0_0.length : Int)) = true:=decide_eq_true c8;clear c8;by_cases c9 : (rd l0_0 a2) < 0
     ·rw [if_pos c9] at H;have c9b0 : decide ((rd l0_0 a2) < 0) = true:=decide_eq_true c9;clear c9;obtain rfl:=Option.some.inj H;go_enter Try.func21,Try.ntmps21
      go_wp2_with (first|((with_reducible refine zM (N:=3) rfl ?_);refine zN ?hg (N:=3) ?hd (cs:=#[.slice A0_0 l0_0.length c0_0,.slice A0_1 l0_1.length c0_1,.slice A0_2 l0_2.length c0_2,.slice A0_3 l0_3.length c0_3]) (t:=27) ?hr ?_;(case hd=>rfl);(case hg=>rfl);(case hr=>first|(go_simp;done)|(go_simp;rfl));intro gb261 hg w10 hbox hb;have n0_:=zm (zK (by repeat (first|(with_reducible first|exact HB.out|apply zA|apply zB|apply zC)|exact HB.out)) hb);have n1_:=zm (hbox);have n2_:=zm ((by rw [hg];exact (zJ (by repeat (first|(with_reducible first|exact HB.out|apply zA|apply zB|apply zC)|exact HB.out))) : w.heap.size ≤ gb261));have n3_:=zm ((by rw [hg];exact (zJ (by repeat (first|(with_reducible first|exact HB.out|apply zA|apply zB|apply zC)|exact HB.out))) : w.heap.size ≤ gb261));clear HB;have HB:=n0_;have BK261:=n1_;have GW261:=n2_;have GE261:=n3_;clear n0_ n1_ n2_ n3_;clear hb hbox hg;have hcz11_0 : w10.cell? ⟨gb261,0,none⟩ = some (.slice A0_0 l0_0.length c0_0):=(zD BK261.out 0).trans rfl;have hcz11_1 : w10.cell? ⟨gb261,1,none⟩ = some (.slice A0_1 l0_1.length c0_1):=(zD BK261.out 1).trans rfl;have hcz11_2 : w10.cell? ⟨gb261,2,none⟩ = some (.slice A0_2 l0_2.length c0_2):=(zD BK261.out 2).trans rfl;have hcz11_3 : w10.cell? ⟨gb261,3,none⟩ = some (.slice A0_3 l0_3.length c0_3):=(zD BK261.out 3).trans rfl;have hfz11_0:=zE BK261.out 0;have hfz11_1:=zE BK261.out 1;have hfz11_2:=zE BK261.out 2;have hfz11_3:=zE BK261.out 3;have p262 : 0 ≤ (a2 : Int):=of_decide_eq_true (by first|(with_reducible assumption)|assumption);have q262 : a2 < (l0_2.length : Int):=of_decide_eq_true (by first|(with_reducible assumption)|assumption);obtain ⟨ad262,e262,hx262_0⟩:=Kd.at_bool HR0_2.out a2 p262 q262;(try rw [← Nbq6.out] at hx262_0);cases e262;replace hx262_0:=(HB.out.cell (World.block_lt_of_cell? w _ hx262_0)).trans hx262_0;replace p262:=eq_true p262;replace q262:=eq_true q262;have p263 : 0 ≤ (a2 : Int):=of_decide_eq_true (by first|(with_reducible assumption)|assumption);have q263 : a2 < (l0_0.length : Int):=of_decide_eq_true (by first|(with_reducible assumption)|assumption);obtain ⟨ad263,e263,hx263_0⟩:=Kd.at_int HR0_0.out a2 p263 q263;cases e263;replace hx263_0:=(HB.out.cell (World.block_lt_of_cell? w _ hx263_0)).trans hx263_0;replace p263:=eq_true p263;replace q263:=eq_true q263))
      go_ret
      exact ⟨by first|rfl|(simp [errW_none,errW_some] <;> rfl)|(simp [*,errW_none,errW_some] <;> rfl),by repeat (first|(with_reducible first|exact HB.out|apply zA|apply zB|apply zC|refine zF ?_ GE261.out)|exact HB.out)⟩
     ·rw [if_neg c9] at H;have c9b0 : decide ((rd l0_0 a2) < 0) = false:=decide_eq_false c9;clear c9;by_cases c12 : 0 ≤ (rd l0_0 a2)
      ·rw [if_pos c12] at H;have c12b0 : decide (0 ≤ (rd l0_0 a2)) = true:=decide_eq_true c12;clear c12;by_cases c13 : (rd l0_0 a2) < (l1.length : Int)
       ·rw [if_pos c13] at H;have c13b0 : decide ((rd l0_0 a2) < (l1.length : Int)) = true:=decide_eq_true c13;clear c13;by_cases c14 : (rd l1 (rd l0_0 a2)) ≥ 3
        ·rw [if_pos c14] at H;have c14b0 : decide (3 ≤ (rd l1 (rd l0_0 a2))) = true:=decide_eq_true c14;clear c14;obtain rfl:=Option.some.inj H;go_enter Try.func21,Try.ntmps21
         go_wp2_with (first|((with_reducible refine zM (N:=3) rfl ?_);refine zN ?hg (N:=3) ?hd (cs:=#[.slice A0_0 l0_0.length c0_0,.slice A0_1 l0_1.length c0_1,.slice A0_2 l0_2.length c0_2,.slice A0_3 l0_3.length c0_3]) (t:=27) ?hr ?_;(case hd=>rfl);(case hg=>rfl);(case hr=>first|(go_simp;done)|(go_simp;rfl));intro gb261 hg w15 hbox hb;have n0_:=zm (zK (by repeat (first|(with_reducible first|exact HB.out|apply zA|apply zB|apply zC)|exact HB.out)) hb);have n1_:=zm (hbox);have n2_:=zm ((by rw [hg];exact (zJ (by repeat (first|(with_reducible first|exact HB.out|apply zA|apply zB|apply zC)|exact HB.out))) : w.heap.size ≤ gb261));have n3_:=zm ((by rw [hg];exact (zJ (by repeat (first|(with_reducible first|exact HB.out|apply zA|apply zB|apply zC)|exact HB.out))) : w.heap.size ≤ gb261));clear HB;have HB:=n0_;have BK261:=n1_;have GW261:=n2_;have GE261:=n3_;clear n0_ n1_ n2_ n3_;clear hb hbox hg;have hcz16_0 : w15.cell? ⟨gb261,0,none⟩ = some (.slice A0_0 l0_0.length c0_0):=(zD BK261.out 0).trans rfl;have hcz16_1 : w15.cell? ⟨gb261,1,none⟩ = some (.slice A0_1 l0_1.length c0_1):=(zD BK261.out 1).trans rfl;have hcz16_2 : w15.cell? ⟨gb261,2,none⟩ = some (.slice A0_2 l0_2.length c0_2):=(zD BK261.out 2).trans rfl;have hcz16_3 : w15.cell? ⟨gb261,3,none⟩ = some (.slice A0_3 l0_3.length c0_3):=(zD BK261.out 3).trans rfl;have hfz16_0:=zE BK261.out 0;have hfz16_1:=zE BK261.out 1;have hfz16_2:=zE BK261.out 2;have hfz16_3:=zE BK261.out 3;have p262 : 0 ≤ (a2 : Int):=of_decide_eq_true (by first|(with_reducible assumption)|assumption);have q262 : a2 < (l0_2.length : Int):=of_decide_eq_true (by first|(with_reducible assumption)|assumption);obtain ⟨ad262,e262,hx262_0⟩:=Kd.at_bool HR0_2.out a2 p262 q262;(try rw [← Nbq6.out] at hx262_0);cases e262;replace hx262_0:=(HB.out.cell (World.block_lt_of_cell? w _ hx262_0)).trans hx262_0;replace p262:=eq_true p262;replace q262:=eq_true q262;have p263 : 0 ≤ (a2 : Int):=of_decide_eq_true (by first|(with_reducible assumption)|assumption);have q263 : a2 < (l0_0.length : Int):=of_decide_eq_true (by first|(with_reducible assumption)|assumption);obtain ⟨ad263,e263,hx263_0⟩:=Kd.at_int HR0_0.out a2 p263 q263;cases e263;replace hx263_0:=(HB.out.cell (World.block_lt_of_cell? w _ hx263_0)).trans hx263_0;replace p263:=eq_true p263;replace q263:=eq_true q263;have p264 : 0 ≤ (a2 : Int):=of_decide_eq_true (by first|(with_reducible assumption)|assumption);have q264 : a2 < (l0_0.length : Int):=of_decide_eq_true (by first|(with_reducible assumption)|assumption);obtain ⟨ad264,e264,hx264_0⟩:=Kd.at_int HR0_0.out a2 p264 q264;obtain rfl : ad263 = ad264:=(by injection e264);replace hx264_0:=(HB.out.cell (World.block_lt_of_cell? w _ hx264_0)).trans hx264_0;replace p264:=eq_true p264;replace q264:=eq_true q264;have p265 : 0 ≤ ((rd l0_0 a2) : Int):=of_decide_eq_true (by first|(with_reducible assumption)|assumption);have q265 : (rd l0_0 a2) < (l1.length : Int):=of_decide_eq_true (by first|(with_reducible assumption)|assumption);obtain ⟨ad265,e265,hx265_0⟩:=Kd.at_int HR1.out (rd l0_0 a2) p265 q265;cases e265;replace hx265_0:=(HB.out.cell (World.block_lt_of_cell? w _ hx265_0)).trans hx265_0;replace p265:=eq_true p265;replace q265:=eq_true q265))
         go_ret
         exact ⟨by first|rfl|(simp [errW_none,errW_some] <;> rfl)|(simp [*,errW_none,errW_some] <;> rfl),by repeat (first|(with_reducible first|exact HB.out|apply zA|apply zB|apply zC|refine zF ?_ GE261.out)|exact HB.out)⟩
        ·rw [if_neg c14] at H;have c14b0 : decide (3 ≤ (rd l1 (rd l0_0 a2))) = false:=decide_eq_false c14;clear c14;obtain rfl:=Option.some.inj H;go_enter Try.func21,Try.ntmps21
         go_wp2_with (first|((with_reducible refine zM (N:=3) rfl ?_);refine zN ?hg (N:=3) ?hd (cs:=#[.slice A0_0 l0_0.length c0_0,.slice A0_1 l0_1.length c0_1,.slice A0_2 l0_2.length c0_2,.slice A0_3 l0_3.length c0_3]) (t:=27) ?hr ?_;(case hd=>rfl);(case hg=>rfl);(case hr=>first|(go_simp;done)|(go_simp;rfl));intro gb261 hg w17 hbox hb;have n0_:=zm (zK (by repeat (first|(with_reducible first|exact HB.out|apply zA|apply zB|apply zC)|exact HB.out)) hb);have n1_:=zm (hbox);have n2_:=zm ((by rw [hg];exact (zJ (by repeat (first|(with_reducible first|exact HB.out|apply zA|apply zB|apply zC)|exact HB.out))) : w.heap.size ≤ gb261));have n3_:=zm ((by rw [hg];exact (zJ (by repeat (first|(with_reducible first|exact HB.out|apply zA|apply zB|apply zC)|exact HB.out))) : w.heap.size ≤ gb261));clear HB;have HB:=n0_;have BK261:=n1_;have GW261:=n2_;have GE261:=n3_;clear n0_ n1_ n2_ n3_;clear hb hbox hg;have hcz18_0 : w17.cell? ⟨gb261,0,none⟩ = some (.slice A0_0 l0_0.length c0_0):=(zD BK261.out 0).trans rfl;have hcz18_1 : w17.cell? ⟨gb261,1,none⟩ = some (.slice A0_1 l0_1.length c0_1):=(zD BK261.out 1).trans rfl;have hcz18_2 : w17.cell? ⟨gb261,2,none⟩ = some (.slice A0_2 l0_2.length c0_2):=(zD BK261.out 2).trans rfl;have hcz18_3 : w17.cell? ⟨gb261,3,none⟩ = some (.slice A0_3 l0_3.length c0_3):=(zD BK261.out 3).trans rfl;have hfz18_0:=zE BK261.out 0;have hfz18_1:=zE BK261.out 1;have hfz18_2:=zE BK261.out 2;have hfz18_3:=zE BK261.out 3;have p262 : 0 ≤ (a2 : Int):=of_decide_eq_true (by first|(with_reducible assumption)|assumption);have q262 : a2 < (l0_2.length : Int):=of_decide_eq_true (by first|(with_reducible assumption)|assumption);obtain ⟨ad262,e262,hx262_0⟩:=Kd.at_bool HR0_2.out a2 p262 q262;(try rw [← Nbq6.out] at hx262_0);cases e262;replace hx262_0:=(HB.out.cell (World.block_lt_of_cell? w _ hx262_0)).trans hx262_0;replace p262:=eq_true p262;replace q262:=eq_true q262;have p263 : 0 ≤ (a2 : Int):=of_decide_eq_true (by first|(with_reducible assumption)|assumption);have q263 : a2 < (l0_0.length : Int):=of_decide_eq_true (by first|(with_reducible assumption)|assumption);obtain ⟨ad263,e263,hx263_0⟩:=Kd.at_int HR0_0.out a2 p263 q263;cases e263;replace hx263_0:=(HB.out.cell (World.block_lt_of_cell? w _ hx263_0)).trans hx263_0;replace p263:=eq_true p263;replace q263:=eq_true q263;have p264 : 0 ≤ (a2 : Int):=of_decide_eq_true (by first|(with_reducible assumption)|assumption);have q264 : a2 < (l0_0.length : Int):=of_decide_eq_true (by first|(with_reducible assumption)|assumption);obtain ⟨ad264,e264,hx264_0⟩:=Kd.at_int HR0_0.out a2 p264 q264;obtain rfl : ad263 = ad264:=(by injection e264);replace hx264_0:=(HB.out.cell (World.block_lt_of_cell? w _ hx264_0)).trans hx264_0;replace p264:=eq_true p264;replace q264:=eq_true q264;have p265 : 0 ≤ ((rd l0_0 a2) : Int):=of_decide_eq_true (by first|(with_reducible assumption)|assumption);have q265 : (rd l0_0 a2) < (l1.length : Int):=of_decide_eq_true (by first|(with_reducible assumption)|assumption);obtain ⟨ad265,e265,hx265_0⟩:=Kd.at_int HR1.out (rd l0_0 a2) p265 q265;cases e265;replace hx265_0:=(HB.out.cell (World.block_lt_of_cell? w _ hx265_0)).trans hx265_0;replace p265:=eq_true p265;replace q265:=eq_true q265;have p266 : 0 ≤ (a2 : Int):=of_decide_eq_true (by first|(with_reducible assumption)|assumption);have q266 : a2 < (l0_0.length : Int):=of_decide_eq_true (by first|(with_reducible assumption)|assumption);obtain ⟨ad266,e266,hx266_0⟩:=Kd.at_int HR0_0.out a2 p266 q266;obtain rfl : ad263 = ad266:=(by injection e266);replace hx266_0:=(HB.out.cell (World.block_lt_of_cell? w _ hx266_0)).trans hx266_0;replace p266:=eq_true p266;replace q266:=eq_true q266;have p267 : 0 ≤ ((rd l0_0 a2) : Int):=of_decide_eq_true (by first|(with_reducible assumption)|assumption);have q267 : (rd l0_0 a2) < (l1.length : Int):=of_decide_eq_true (by first|(with_reducible assumption)|assumption);obtain ⟨ad267,e267,hx267_0⟩:=Kd.at_int HR1.out (rd l0_0 a2) p267 q267;obtain rfl : ad265 = ad267:=(by injection e267);replace hx267_0:=(HB.out.cell (World.block_lt_of_cell? w _ hx267_0)).trans hx267_0;replace p267:=eq_true p267;replace q267:=eq_true q267))
         go_ret
         exact ⟨by first|rfl|(simp [errW_none,errW_some] <;> rfl)|(simp [*,errW_none,errW_some] <;> rfl),by repeat (first|(with_reducible first|exact HB.out|apply zA|apply zB|apply zC|refine zF ?_ GE261.out)|exact HB.out)⟩
       ·rw [if_neg c13] at H;exact absurd H (by simp)
      ·rw [if_neg c12] at H;exact absurd H (by simp)
    ·rw [if_neg c8] at H;exact absurd H (by simp)
   ·replace c7:=Bool.eq_false_iff.mpr c7;subst c7
    have H1 : (some 0) = some r:=by rw [if_neg (show ¬ (false = true) by decide)] at H;exact H
    clear H;have H:=H1;clear H1;obtain rfl:=Option.some.inj H;go_enter Try.func21,Try.ntmps21
    go_wp2_with (first|((with_reducible refine zM (N:=3) rfl ?_);refine zN ?hg (N:=3) ?hd (cs:=#[.slice A0_0 l0_0.length c0_0,.slice A0_1 l0_1.length c0_1,.slice A0_2 l0_2.length c0_2,.slice A0_3 l0_3.length c0_3]) (t:=27) ?hr ?_;(case hd=>rfl);(case hg=>rfl);(case hr=>first|(go_simp;done)|(go_simp;rfl));intro gb261 hg w19 hbox hb;have n0_:=zm (zK (by repeat (first|(with_reducible first|exact HB.out|apply zA|apply zB|apply zC)|exact HB.out)) hb);have n1_:=zm (hbox);have n2_:=zm ((by rw [hg];exact (zJ (by repeat (first|(with_reducible first|exact HB.out|apply zA|apply zB|apply zC)|exact HB.out))) : w.heap.size ≤ gb261));have n3_:=zm ((by rw [hg];exact (zJ (by repeat (first|(with_reducible first|exact HB.out|apply zA|apply zB|apply zC)|exact HB.out))) : w.heap.size ≤ gb261));clear HB;have HB:=n0_;have BK261:=n1_;have GW261:=n2_;have GE261:=n3_;clear n0_ n1_ n2_ n3_;clear hb hbox hg;have hcz20_0 : w19.cell? ⟨gb261,0,none⟩ = some (.slice A0_0 l0_0.length c0_0):=(zD BK261.out 0).trans rfl;have hcz20_1 : w19.cell? ⟨gb261,1,none⟩ = some (.slice A0_1 l0_1.length c0_1):=(zD BK261.out 1).trans rfl;have hcz20_2 : w19.cell? ⟨gb261,2,none⟩ = some (.slice A0_2 l0_2.length c0_2):=(zD BK261.out 2).trans rfl;have hcz20_3 : w19.cell? ⟨gb261,3,none⟩ = some (.slice A0_3 l0_3.length c0_3):=(zD BK261.out 3).trans rfl;have hfz20_0:=zE BK261.out 0;have hfz20_1:=zE BK261.out 1;have hfz20_2:=zE BK261.out 2;have hfz20_3:=zE BK261.out 3;have p262 : 0 ≤ (a2 : Int):=of_decide_eq_true (by first|(with_reducible assumption)|assumption);have q262 : a2 < (l0_2.length : Int):=of_decide_eq_true (by first|(with_reducible assumption)|assumption);obtain ⟨ad262,e262,hx262_0⟩:=Kd.at_bool HR0_2.out a2 p262 q262;(try rw [← Nbq6.out] at hx262_0);cases e262;replace hx262_0:=(HB.out.cell (World.block_lt_of_cell? w _ hx262_0)).trans hx262_0;replace p262:=eq_true p262;replace q262:=eq_true q262))
    go_ret
    exact ⟨by first|rfl|(simp [errW_none,errW_some] <;> rfl)|(simp [*,errW_none,errW_some] <;> rfl),by repeat (first|(with_reducible first|exact HB.out|apply zA|apply zB|apply zC|refine zF ?_ GE261.out)|exact HB.out)⟩
  ·rw [if_neg c5] at H;exact absurd H (by simp)
 ·rw [if_neg c4] at H;exact absurd H (by simp)

/-! ### laws_wByte: function 19 -/
def laws_wByte.f (l0 : List Int) (a1 : Int) : Option (Int):=if (l0.length : Int) = 0 then (some 0) else (if 0 ≤ (Int.tmod a1 (l0.length : Int)) then (if (Int.tmod a1 (l0.length : Int)) < (l0.length : Int) then (some (wrap64 (rd l0 (Int.tmod a1 (l0.length : Int))))) else (none)) else (none))
set_option maxHeartbeats 8000000 in
set_option maxRecDepth 100000 in
theorem laws_wByte.calls (A0 : Option Addr) (c0 : Nat) (l0 : List Int) (a1 : Int) (r : Int) (w : World) (hr0 : Kd.C (Kd.int .u8) w A0 l0.length l0) (hc0 : l0.length ≤ c0) (h : laws_wByte.f l0 a1 = some r) :
  Calls Try.prog 19 #[.slice A0 l0.length c0,.int .i64 a1] w fun e w'=>e = .returned (.int .i64 r)∧Drawn0 w w':=by
 have HR0:=zm hr0;have HC0:=zm hc0;clear hr0 hc0;have H : (if (l0.length : Int) = 0 then (some 0) else (if 0 ≤ (Int.tmod a1 (l0.length : Int)) then (if (Int.tmod a1 (l0.length : Int)) < (l0.length : Int) then (some (wrap64 (rd l0 (Int.tmod a1 (l0.length : Int))))) else (none)) else (none))) = some r:=h;clear h;by_cases c3 : (l0.length : Int) = 0
 ·rw [if_pos c3] at H;have c3b0 : ((l0.length : Int) == 0) = true:=beq_iff_eq.mpr c3;have c3b1 : ((l0.length : Int) != 0) = false:=bne_eq_false_iff_eq.mpr c3;clear c3;obtain rfl:=Option.some.inj H;go_enter Try.func19,Try.ntmps19
  go_wp2;go_ret
  exact ⟨by first|rfl|(simp;done)|(simp [*];done),by repeat (first|exact Drawn0.refl _|apply Drawn0.step)⟩
 ·rw [if_neg c3] at H;have c3b0 : ((l0.length : Int) == 0) = false:=beq_eq_false_iff_ne.mpr c3;have c3b1 : ((l0.length : Int) != 0) = true:=bne_iff_ne.mpr c3;have c3b2 : ¬ (l0 = []):=fun h_=>c3 (by rw [h_];rfl)
  obtain ⟨ji4,hji4⟩ : ∃ j_ : Int,(Int.tmod a1 (l0.length : Int)) = j_:=⟨_,rfl⟩;replace H : (if 0 ≤ (ji4) then (if (ji4) < (l0.length : Int) then (some (wrap64 (rd l0 (ji4)))) else (none)) else (none)) = some r:=by first|(rw [hji4] at H;exact H)|(simp only [hji4] at H ⊢;exact H)
  by_cases c5 : 0 ≤ (ji4)
  ·rw [if_pos c5] at H;have c5b0 : decide (0 ≤ (ji4)) = true:=decide_eq_true c5;clear c5;by_cases c6 : (ji4) < (l0.length : Int)
   ·rw [if_pos c6] at H;have c6b0 : decide ((ji4) < (l0.length : Int)) = true:=decide_eq_true c6;clear c6;obtain rfl:=Option.some.inj H;have p279 : 0 ≤ ((ji4) : Int):=of_decide_eq_true (by first|(with_reducible assumption)|assumption)
    have q279 : (ji4) < (l0.length : Int):=of_decide_eq_true (by first|(with_reducible assumption)|assumption)
    obtain ⟨ad279,e279,hx279_0⟩:=Kd.at_int HR0.out (ji4) p279 q279;cases e279;replace p279:=eq_true p279;replace q279:=eq_true q279;go_enter Try.func19,Try.ntmps19
    go_wp2;go_ret
    exact ⟨by first|rfl|(simp;done)|(simp only [← hji4] <;> (first|rfl|simp))|(simp [*];done),by repeat (first|exact Drawn0.refl _|apply Drawn0.step)⟩
   ·rw [if_neg c6] at H;exact absurd H (by simp)
  ·rw [if_neg c5] at H;exact absurd H (by simp)

/-! ### laws_wInts: function 38 -/
def laws_wInts.l0 : Nat→List Int→List Int→Int→Int→Option (Bool)
 | 0,_,_,_,_=>none
 | k + 1,x0,x1,x12,x13=>if x13 < x12 then (if 0 ≤ x13 then (if x13 < (x0.length : Int) then (if x13 < (x1.length : Int) then (if (rd x0 x13) = (rd x1 x13) then (laws_wInts.l0 k x0 x1 x12 (wrap64 (x13 + 1))) else (some false)) else (none)) else (none)) else (none)) else (some true)
def laws_wInts.f (k : Nat) (l0 : List Int) (l1 : List Int) : Option (Bool):=if (l0.length : Int) = (l1.length : Int) then (laws_wInts.l0 k l0 l1 (l0.length : Int) 0) else (some false)
theorem laws_wInts.mono_l : ∀ k,(∀ y0 y1 y2 y3,LeO (laws_wInts.l0 k y0 y1 y2 y3) (laws_wInts.l0 (k + 1) y0 y1 y2 y3))
 | 0=>fun _ _ _ _ r h=>by simp [laws_wInts.l0] at h
 | k + 1=>by
  have ih0:=laws_wInts.mono_l k
  ·intro y0 y1 y2 y3
   unfold laws_wInts.l0
   repeat' first
   | (with_reducible exact ih0 _ _ _ _)
   | (with_reducible exact LeO.refl _)
   | (with_reducible exact LeO.none _)
   | (with_reducible refine LeO.ite ?_ ?_)
   | (with_reducible refine LeO.bind ?_ (fun _=>?_))
   | exact ih0 _ _ _ _
   | exact LeO.none _
   | refine LeO.ite ?_ ?_
   | refine LeO.bind ?_ (fun _=>?_)
theorem laws_wInts.mono : ∀ a0 a1 k,LeO (laws_wInts.f k a0 a1) (laws_wInts.f (k + 1) a0 a1):=by
 intro a0 a1 k
 have ih0:=laws_wInts.mono_l k;unfold laws_wInts.f
 repeat' first
   | (with_reducible exact ih0 _ _ _ _)
   | (with_reducible exact LeO.refl _)
   | (with_reducible exact LeO.none _)
   | (with_reducible refine LeO.ite ?_ ?_)
   | (with_reducible refine LeO.bind ?_ (fun _=>?_))
   | exact ih0 _ _ _ _
   | exact LeO.none _
   | refine LeO.ite ?_ ?_
   | refine LeO.bind ?_ (fun _=>?_)
set_option maxHeartbeats 8000000 in
set_option maxRecDepth 100000 in
theorem laws_wInts.calls (k : Nat) (A0 : Option Addr) (c0 : Nat) (l0 : List Int) (A1 : Option Addr) (c1 : Nat) (l1 : List Int) (r : Bool) (w : World) (hr0 : Kd.C (Kd.int .i64) w A0 l0.length l0) (hc0 : l0.length ≤ c0) (hr1 : Kd.C (Kd.int .i64) w A1 l1.length l1) (hc1 : l1.length ≤ c1) (h : laws_wInts.f k l0 l1 = some r) :
  Calls Try.prog 38 #[.slice A0 l0.length c0,.slice A1 l1.length c1] w fun e w'=>e = .returned (.bool r)∧Drawn0 w w':=by
 have HR0:=zm hr0;have HC0:=zm hc0;clear hr0 hc0;have HR1:=zm hr1;have HC1:=zm hc1;clear hr1 hc1;have H : (if (l0.length : Int) = (l1.length : Int) then (laws_wInts.l0 k l0 l1 (l0.length : Int) 0) else (some false)) = some r:=h;clear h;by_cases c3 : (l0.length : Int) = (l1.length : Int)
 ·rw [if_pos c3] at H;have c3b0 : ((l0.length : Int) == (l1.length : Int)) = true:=beq_iff_eq.mpr c3;have c3b1 : ((l0.length : Int) != (l1.length : Int)) = false:=bne_eq_false_iff_eq.mpr c3;have c3b2 : (l0.length == l1.length) = true:=by first|simpa using c3|(simp at c3 ⊢;omega)
  clear c3;have H':=zm H;clear H;go_enter Try.func38,Try.ntmps38
  go_wp2;repeat (go_quiet (fail);try go_wp2)
  go_loopg [13] k (fun kq v13 w'=>∃ (x13_1 : Int),v13 = .int .i64 x13_1∧Aside0 (laws_wInts.l0 kq l0 l1 (l0.length : Int) x13_1 = some r)∧Aside0 (kq ≤ k)∧Drawn0 w w')
  case atStart=>exact ⟨(0),(by first|rfl|(simp;done)|(simp [*];done)),H',⟨Nat.le_refl _⟩,by repeat (first|exact Drawn0.refl _|apply Drawn0.step)⟩
  case round =>
   clear H';(try clear c1);(try clear p2);(try clear c3);(try clear c3b0);(try clear c3b1);(try clear c3b2);obtain ⟨x13_1,rfl,HA,HK1,⟨m1,rfl⟩⟩:=hrel;cases gk with
   | zero=>exact absurd HA.out (by simp [laws_wInts.l0])
   | succ k1 =>
    have H:=HA.out;clear HA;simp only [laws_wInts.l0] at H
    by_cases c4 : x13_1 < (l0.length : Int)
    ·rw [if_pos c4] at H;have c4b0 : decide (x13_1 < (l0.length : Int)) = true:=decide_eq_true c4;clear c4;by_cases c5 : 0 ≤ x13_1
     ·rw [if_pos c5] at H;have c5b0 : decide (0 ≤ x13_1) = true:=decide_eq_true c5;clear c5;by_cases c6 : x13_1 < (l0.length : Int)
      ·rw [if_pos c6] at H;have c6b0 : decide (x13_1 < (l0.length : Int)) = true:=decide_eq_true c6;clear c6;by_cases c7 : x13_1 < (l1.length : Int)
       ·rw [if_pos c7] at H;have c7b0 : decide (x13_1 < (l1.length : Int)) = true:=decide_eq_true c7;clear c7;by_cases c8 : (rd l0 x13_1) = (rd l1 x13_1)
        ·rw [if_pos c8] at H;have c8b0 : ((rd l0 x13_1) == (rd l1 x13_1)) = true:=beq_iff_eq.mpr c8;have c8b1 : ((rd l0 x13_1) != (rd l1 x13_1)) = false:=bne_eq_false_iff_eq.mpr c8;clear c8;have H':=zm H;clear H;have p373 : 0 ≤ (x13_1 : Int):=of_decide_eq_true (by first|(with_reducible assumption)|assumption)
         have q373 : x13_1 < (l0.length : Int):=of_decide_eq_true (by first|(with_reducible assumption)|assumption)
         obtain ⟨ad373,e373,hx373_0⟩:=Kd.at_int HR0.out x13_1 p373 q373;cases e373;replace p373:=eq_true p373;replace q373:=eq_true q373;have p374 : 0 ≤ (x13_1 : Int):=of_decide_eq_true (by first|(with_reducible assumption)|assumption)
         have q374 : x13_1 < (l1.length : Int):=of_decide_eq_true (by first|(with_reducible assumption)|assumption)
         obtain ⟨ad374,e374,hx374_0⟩:=Kd.at_int HR1.out x13_1 p374 q374;cases e374;replace p374:=eq_true p374;replace q374:=eq_true q374;go_wp2;repeat (go_quiet (fail);try go_wp2)
         go_roundg k1
         case measure=>have:=HK1.out;omega
         case rel=>exact ⟨(wrap64 (x13_1 + 1)),(by first|rfl|(simp;done)|(simp [*];done)),H',⟨by have:=HK1.out;omega⟩,by repeat (first|exact Drawn0.refl _|apply Drawn0.step)⟩
        ·rw [if_neg c8] at H;have c8b0 : ((rd l0 x13_1) == (rd l1 x13_1)) = false:=beq_eq_false_iff_ne.mpr c8;have c8b1 : ((rd l0 x13_1) != (rd l1 x13_1)) = true:=bne_iff_ne.mpr c8;obtain rfl:=Option.some.inj H;have p373 : 0 ≤ (x13_1 : Int):=of_decide_eq_true (by first|(with_reducible assumption)|assumption)
         have q373 : x13_1 < (l0.length : Int):=of_decide_eq_true (by first|(with_reducible assumption)|assumption)
         obtain ⟨ad373,e373,hx373_0⟩:=Kd.at_int HR0.out x13_1 p373 q373;cases e373;replace p373:=eq_true p373;replace q373:=eq_true q373;have p374 : 0 ≤ (x13_1 : Int):=of_decide_eq_true (by first|(with_reducible assumption)|assumption)
         have q374 : x13_1 < (l1.length : Int):=of_decide_eq_true (by first|(with_reducible assumption)|assumption)
         obtain ⟨ad374,e374,hx374_0⟩:=Kd.at_int HR1.out x13_1 p374 q374;cases e374;replace p374:=eq_true p374;replace q374:=eq_true q374;go_wp2;repeat (go_quiet (fail);try go_wp2)
         go_ret
         exact ⟨by first|rfl|(simp;done)|(simp [*];done),by repeat (first|exact Drawn0.refl _|apply Drawn0.step)⟩
       ·rw [if_neg c7] at H;exact absurd H (by simp)
      ·rw [if_neg c6] at H;exact absurd H (by simp)
     ·rw [if_neg c5] at H;exact absurd H (by simp)
    ·rw [if_neg c4] at H;have c4b0 : decide (x13_1 < (l0.length : Int)) = false:=decide_eq_false c4;clear c4;obtain rfl:=Option.some.inj H;go_wp2;repeat (go_quiet (fail);try go_wp2)
     go_ret
     exact ⟨by first|rfl|(simp;done)|(simp [*];done),by repeat (first|exact Drawn0.refl _|apply Drawn0.step)⟩
 ·rw [if_neg c3] at H;have c3b0 : ((l0.length : Int) == (l1.length : Int)) = false:=beq_eq_false_iff_ne.mpr c3;have c3b1 : ((l0.length : Int) != (l1.length : Int)) = true:=bne_iff_ne.mpr c3;have c3b2 : (l0.length == l1.length) = false:=by first|simpa using c3|(simp at c3 ⊢;omega)
  obtain rfl:=Option.some.inj H;go_enter Try.func38,Try.ntmps38
  go_wp2;repeat (go_quiet (fail);try go_wp2)
  go_ret
  exact ⟨by first|rfl|(simp;done)|(simp [*];done),by repeat (first|exact Drawn0.refl _|apply Drawn0.step)⟩

/-! ### laws_wSlow: function 45 -/
def laws_wSlow.f (a0 : Int) (a1 : Int) : Option (Int):=if a1 = 0 then (none) else (some (wrap64 ((wrap64 ((wrap64 (Int.tdiv a0 a1)) * (Int.tmod a0 a1))) + (wrap64 (Int.tdiv (wrap64 ((wrap64 (a1 * (wrap64 (Int.tdiv a0 a1)))) * (wrap64 ((wrap64 (Int.tdiv a0 a1)) - 1)))) 2)))))
set_option maxHeartbeats 8000000 in
set_option maxRecDepth 100000 in
theorem laws_wSlow.calls (a0 : Int) (a1 : Int) (r : Int) (w : World) (h : laws_wSlow.f a0 a1 = some r) :
  Calls Try.prog 45 #[.int .i64 a0,.int .i64 a1] w fun e w'=>e = .returned (.int .i64 r)∧Drawn0 w w':=by
 have H : (if a1 = 0 then (none) else (some (wrap64 ((wrap64 ((wrap64 (Int.tdiv a0 a1)) * (Int.tmod a0 a1))) + (wrap64 (Int.tdiv (wrap64 ((wrap64 (a1 * (wrap64 (Int.tdiv a0 a1)))) * (wrap64 ((wrap64 (Int.tdiv a0 a1)) - 1)))) 2)))))) = some r:=h;clear h;by_cases c3 : a1 = 0
 ·rw [if_pos c3] at H;exact absurd H (by simp)
 ·rw [if_neg c3] at H;have c3b0 : (a1 == 0) = false:=beq_eq_false_iff_ne.mpr c3;have c3b1 : (a1 != 0) = true:=bne_iff_ne.mpr c3;obtain rfl:=Option.some.inj H;go_enter Try.func45,Try.ntmps45
  go_wp2;go_ret
  exact ⟨by first|rfl|(simp;done)|(simp [*];done),by repeat (first|exact Drawn0.refl _|apply Drawn0.step)⟩

end Go.Proofs.Ytpdcghclcgbcfaa.P
