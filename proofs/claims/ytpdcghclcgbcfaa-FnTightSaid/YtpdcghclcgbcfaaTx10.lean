-- written by a program of this session (after the kit's print), not trusted: Lean checks it
import Derived.Test.YtpdcghclcgbcfaaTx0
namespace Go.Proofs.Ytpdcghclcgbcfaa.T
open Go.RowKit Go.Proofs.YtpdcghclcgbcfaaW.PrintWords Go.Proofs.YtpdcghclcgbcfaaW.PrintLast Go.Proofs.YtpdcghclcgbcfaaW.PrintMore
open Go.Proofs.YtpdcghclcgbcfaaW.PrintWords renaming below_alloc → zA, below_drew1 → zC, below_set → zF, below_size → zJ, below_step → zK, blk_cell → zD, blk_frozen → zE, box_event → zN, gate_dst → zM, pw_below_drewN → zB
open Go.Proofs.YtpdcghclcgbcfaaW.PrintWords.Aside0 renaming mk → zm
attribute [local go_sem] max2_int min2_int max_two min_two max_three min_three max_four min_four   -- for this text's walks alone
set_option linter.unusedVariables false
set_option linter.unusedSimpArgs false

/-! ### spec_l2lamp: function 70 -/
def spec_l2lamp.l0 : Nat→List Bool→Int→Option (Int)
 | 0,_,_=>none
 | k + 1,x0,x5=>if x5 ≥ 0 then (if 0 ≤ x5 then (if x5 < (x0.length : Int) then (if rdOf false x0 x5 = true then (some x5) else (spec_l2lamp.l0 k x0 (wrap64 (x5 - 1)))) else (none)) else (none)) else (some (-1))
def spec_l2lamp.f (k : Nat) (l0 : List Bool) (a1 : Int) : Option (Int):=spec_l2lamp.l0 k l0 a1
theorem spec_l2lamp.mono_l : ∀ k,(∀ y0 y1,LeO (spec_l2lamp.l0 k y0 y1) (spec_l2lamp.l0 (k + 1) y0 y1))
 | 0=>fun _ _ r h=>by simp [spec_l2lamp.l0] at h
 | k + 1=>by
  have ih0:=spec_l2lamp.mono_l k
  ·intro y0 y1
   unfold spec_l2lamp.l0
   repeat' first
   | (with_reducible exact ih0 _ _)
   | (with_reducible exact LeO.refl _)
   | (with_reducible exact LeO.none _)
   | (with_reducible refine LeO.ite ?_ ?_)
   | (with_reducible refine LeO.bind ?_ (fun _=>?_))
   | exact ih0 _ _
   | exact LeO.none _
   | refine LeO.ite ?_ ?_
   | refine LeO.bind ?_ (fun _=>?_)
theorem spec_l2lamp.mono : ∀ a0 a1 k,LeO (spec_l2lamp.f k a0 a1) (spec_l2lamp.f (k + 1) a0 a1):=by
 intro a0 a1 k
 have ih0:=spec_l2lamp.mono_l k;unfold spec_l2lamp.f
 repeat' first
   | (with_reducible exact ih0 _ _)
   | (with_reducible exact LeO.refl _)
   | (with_reducible exact LeO.none _)
   | (with_reducible refine LeO.ite ?_ ?_)
   | (with_reducible refine LeO.bind ?_ (fun _=>?_))
   | exact ih0 _ _
   | exact LeO.none _
   | refine LeO.ite ?_ ?_
   | refine LeO.bind ?_ (fun _=>?_)
set_option maxHeartbeats 8000000 in
set_option maxRecDepth 100000 in
theorem spec_l2lamp.calls (k : Nat) (A0 : Option Addr) (c0 : Nat) (l0 : List Bool) (a1 : Int) (r : Int) (w : World) (hr0 : Kd.C Kd.bool w A0 l0.length l0) (hc0 : l0.length ≤ c0) (h : spec_l2lamp.f k l0 a1 = some r) :
  Calls Try.prog 70 #[.slice A0 l0.length c0,.int .i64 a1] w fun e w'=>e = .returned (.int .i64 r)∧Drawn0 w w':=by
 have HR0:=zm hr0;have HC0:=zm hc0;clear hr0 hc0;have H : (spec_l2lamp.l0 k l0 a1) = some r:=h;clear h;have H':=zm H;clear H;go_enter Try.func70,Try.ntmps70
 go_wp2;go_loopg [5] k (fun kq v5 w'=>∃ (x5_1 : Int),v5 = .int .i64 x5_1∧Aside0 (spec_l2lamp.l0 kq l0 x5_1 = some r)∧Aside0 (kq ≤ k)∧Drawn0 w w')
 case atStart=>exact ⟨(a1),(by first|rfl|(simp;done)|(simp [*];done)),H',⟨Nat.le_refl _⟩,by repeat (first|exact Drawn0.refl _|apply Drawn0.step)⟩
 case round =>
  clear H';(try clear p2);obtain ⟨x5_1,rfl,HA,HK1,⟨m1,rfl⟩⟩:=hrel;cases gk with
  | zero=>exact absurd HA.out (by simp [spec_l2lamp.l0])
  | succ k1 =>
   have H:=HA.out;clear HA;simp only [spec_l2lamp.l0] at H
   by_cases c3 : x5_1 ≥ 0
   ·rw [if_pos c3] at H;have c3b0 : decide (0 ≤ x5_1) = true:=decide_eq_true c3;clear c3;by_cases c4 : 0 ≤ x5_1
    ·rw [if_pos c4] at H;have c4b0 : decide (0 ≤ x5_1) = true:=decide_eq_true c4;clear c4;by_cases c5 : x5_1 < (l0.length : Int)
     ·rw [if_pos c5] at H;have c5b0 : decide (x5_1 < (l0.length : Int)) = true:=decide_eq_true c5;clear c5;obtain ⟨bq6,hbq6⟩ : ∃ b_ : Bool,b_ = (rdOf false l0 x5_1):=⟨_,rfl⟩;replace H : (if bq6 = true then (some x5_1) else (spec_l2lamp.l0 k1 l0 (wrap64 (x5_1 - 1)))) = some r:=by rw [← hbq6] at H;exact H
      have Nbq6:=zm hbq6;clear hbq6;by_cases c7 : bq6 = true
      ·subst c7
       have H1 : (some x5_1) = some r:=by rw [if_pos rfl] at H;exact H
       clear H;have H:=H1;clear H1;obtain rfl:=Option.some.inj H;have p239 : 0 ≤ (x5_1 : Int):=of_decide_eq_true (by first|(with_reducible assumption)|assumption)
       have q239 : x5_1 < (l0.length : Int):=of_decide_eq_true (by first|(with_reducible assumption)|assumption)
       obtain ⟨ad239,e239,hx239_0⟩:=Kd.at_bool HR0.out x5_1 p239 q239;(try rw [← Nbq6.out] at hx239_0);cases e239;replace p239:=eq_true p239;replace q239:=eq_true q239;go_wp2;go_ret
       exact ⟨by first|rfl|(simp;done)|(simp [*];done),by repeat (first|exact Drawn0.refl _|apply Drawn0.step)⟩
      ·replace c7:=Bool.eq_false_iff.mpr c7;subst c7
       have H1 : (spec_l2lamp.l0 k1 l0 (wrap64 (x5_1 - 1))) = some r:=by rw [if_neg (show ¬ (false = true) by decide)] at H;exact H
       clear H;have H:=H1;clear H1;have H':=zm H;clear H;have p239 : 0 ≤ (x5_1 : Int):=of_decide_eq_true (by first|(with_reducible assumption)|assumption)
       have q239 : x5_1 < (l0.length : Int):=of_decide_eq_true (by first|(with_reducible assumption)|assumption)
       obtain ⟨ad239,e239,hx239_0⟩:=Kd.at_bool HR0.out x5_1 p239 q239;(try rw [← Nbq6.out] at hx239_0);cases e239;replace p239:=eq_true p239;replace q239:=eq_true q239;go_wp2;go_roundg k1
       case measure=>have:=HK1.out;omega
       case rel=>exact ⟨(wrap64 (x5_1 - 1)),(by first|rfl|(simp;done)|(simp [*];done)),H',⟨by have:=HK1.out;omega⟩,by repeat (first|exact Drawn0.refl _|apply Drawn0.step)⟩
     ·rw [if_neg c5] at H;exact absurd H (by simp)
    ·rw [if_neg c4] at H;exact absurd H (by simp)
   ·rw [if_neg c3] at H;have c3b0 : decide (0 ≤ x5_1) = false:=decide_eq_false c3;clear c3;obtain rfl:=Option.some.inj H;go_wp2;go_ret
    exact ⟨by first|rfl|(simp;done)|(simp [*];done),by repeat (first|exact Drawn0.refl _|apply Drawn0.step)⟩

/-! ### spec_l2want: function 71 -/
def spec_l2want.f (l0_0 : List Int) (l0_1 : List Int) (l0_2 : List Bool) (l0_3 : List (List Bool)) (l1 : List Int) (a2 : Int) : Option (Int):=if 0 ≤ a2 then (if a2 < (l0_2.length : Int) then (if rdOf false l0_2 a2 = true then (if a2 < (l0_0.length : Int) then (if (rd l0_0 a2) < 0 then (some 1) else (if 0 ≤ (rd l0_0 a2) then (if (rd l0_0 a2) < (l1.length : Int) then (if (wrap64 ((rd l1 (rd l0_0 a2)) + 1)) > 3 then (some 3) else (some (wrap64 ((rd l1 (rd l0_0 a2)) + 1)))) else (none)) else (none))) else (none)) else (some 0)) else (none)) else (none)
set_option maxHeartbeats 8000000 in
set_option maxRecDepth 100000 in
theorem spec_l2want.calls (A0_0 : Option Addr) (c0_0 : Nat) (l0_0 : List Int) (A0_1 : Option Addr) (c0_1 : Nat) (l0_1 : List Int) (A0_2 : Option Addr) (c0_2 : Nat) (l0_2 : List Bool) (A0_3 : Option Addr) (c0_3 : Nat) (l0_3 : List (List Bool)) (A1 : Option Addr) (c1 : Nat) (l1 : List Int) (a2 : Int) (r : Int) (w : World) (hr0_0 : Kd.C (Kd.int .i64) w A0_0 l0_0.length l0_0) (hc0_0 : l0_0.length ≤ c0_0) (hr0_1 : Kd.C (Kd.int .i64) w A0_1 l0_1.length l0_1) (hc0_1 : l0_1.length ≤ c0_1) (hr0_2 : Kd.C Kd.bool w A0_2 l0_2.length l0_2) (hc0_2 : l0_2.length ≤ c0_2) (hr0_3 : Kd.C (Kd.slice 4 Kd.bool) w A0_3 l0_3.length l0_3) (hc0_3 : l0_3.length ≤ c0_3) (hr1 : Kd.C (Kd.int .i64) w A1 l1.length l1) (hc1 : l1.length ≤ c1) (h : spec_l2want.f l0_0 l0_1 l0_2 l0_3 l1 a2 = some r) :
  Calls Try.prog 71 #[.agg #[.slice A0_0 l0_0.length c0_0,.slice A0_1 l0_1.length c0_1,.slice A0_2 l0_2.length c0_2,.slice A0_3 l0_3.length c0_3],.slice A1 l1.length c1,.int .i64 a2] w fun e w'=>e = .returned (.int .i64 r)∧Below w.heap.size w w':=by
 have hu27:=Try.underlying27;have HR0_0:=zm hr0_0;have HC0_0:=zm hc0_0;clear hr0_0 hc0_0;have HR0_1:=zm hr0_1;have HC0_1:=zm hc0_1;clear hr0_1 hc0_1;have HR0_2:=zm hr0_2;have HC0_2:=zm hc0_2;clear hr0_2 hc0_2;have HR0_3:=zm hr0_3;have HC0_3:=zm hc0_3;clear hr0_3 hc0_3;have HR1:=zm hr1;have HC1:=zm hc1;clear hr1 hc1;have HB:=zm (Below.refl w.heap.size w);have H : (if 0 ≤ a2 then (if a2 < (l0_2.length : Int) then (if rdOf false l0_2 a2 = true then (if a2 < (l0_0.length : Int) then (if (rd l0_0 a2) < 0 then (some 1) else (if 0 ≤ (rd l0_0 a2) then (if (rd l0_0 a2) < (l1.length : Int) then (if (wrap64 ((rd l1 (rd l0_0 a2)) + 1)) > 3 then (some 3) else (some (wrap64 ((rd l1 (rd l0_0 a2)) + 1)))) else (none)) else (none))) else (none)) else (some 0)) else (none)) else (none)) = some r:=h;clear h;by_cases c4 : 0 ≤ a2
 ·rw [if_pos c4] at H;have c4b0 : decide (0 ≤ a2) = true:=decide_eq_true c4;clear c4;by_cases c5 : a2 < (l0_2.length : Int)
  ·rw [if_pos c5] at H;have c5b0 : decide (a2 < (l0_2.length : Int)) = true:=decide_eq_true c5;clear c5;obtain ⟨bq6,hbq6⟩ : ∃ b_ : Bool,b_ = (rdOf false l0_2 a2):=⟨_,rfl⟩;replace H : (if bq6 = true then (if a2 < (l0_0.length : Int) then (if (rd l0_0 a2) < 0 then (some 1) else (if 0 ≤ (rd l0_0 a2) then (if (rd l0_0 a2) < (l1.length : Int) then (if (wrap64 ((rd l1 (rd l0_0 a2)) + 1)) > 3 then (some 3) else (some (wrap64 ((rd l1 (rd l0_0 a2)) + 1)))) else (none)) else (none))) else (none)) else (some 0)) = some r:=by rw [← hbq6] at H;exact H
   have Nbq6:=zm hbq6;clear hbq6;by_cases c7 : bq6 = true
   ·subst c7
    have H1 : (if a2 < (l0_0.length : Int) then (if (rd l0_0 a2) < 0 then (some 1) else (if 0 ≤ (rd l0_0 a2) then (if (rd l0_0 a2) < (l1.length : Int) then (if (wrap64 ((rd l1 (rd l0_0 a2)) + 1)) > 3 then (some 3) else (some (wrap64 ((rd l1 (rd l0_0 a2)) + 1)))) else (none)) else (none))) else (none)) = some r:=by rw [if_pos rfl] at H;exact H
    clear H;have H:=H1;clear H1;by_cases c8 : a2 < (l0_0.length : Int)
    ·rw [if_pos c8] at H;have c8b0 : decide (a2 < (l0_0.length : Int)) = true:=decide_eq_true c8;clear c8;by_cases c9 : (rd l0_0 a2) < 0
     ·rw [if_pos c9] at H;have c9b0 : decide ((rd l0_0 a2) < 0) = true:=decide_eq_true c9;clear c9;obtain rfl:=Option.some.inj H;go_enter Try.func71,Try.ntmps71
      go_wp2_with (first|((with_reducible refine zM (N:=3) rfl ?_);refine zN ?hg (N:=3) ?hd (cs:=#[.slice A0_0 l0_0.length c0_0,.slice A0_1 l0_1.length c0_1,.slice A0_2 l0_2.length c0_2,.slice A0_3 l0_3.length c0_3]) (t:=27) ?hr ?_;(case hd=>rfl);(case hg=>rfl);(case hr=>first|(go_simp;done)|(go_simp;rfl));intro gb240 hg w10 hbox hb;have n0_:=zm (zK (by repeat (first|(with_reducible first|exact HB.out|apply zA|apply zB|apply zC)|exact HB.out)) hb);have n1_:=zm (hbox);have n2_:=zm ((by rw [hg];exact (zJ (by repeat (first|(with_reducible first|exact HB.out|apply zA|apply zB|apply zC)|exact HB.out))) : w.heap.size ≤ gb240));have n3_:=zm ((by rw [hg];exact (zJ (by repeat (first|(with_reducible first|exact HB.out|apply zA|apply zB|apply zC)|exact HB.out))) : w.heap.size ≤ gb240));clear HB;have HB:=n0_;have BK240:=n1_;have GW240:=n2_;have GE240:=n3_;clear n0_ n1_ n2_ n3_;clear hb hbox hg;have hcz11_0 : w10.cell? ⟨gb240,0,none⟩ = some (.slice A0_0 l0_0.length c0_0):=(zD BK240.out 0).trans rfl;have hcz11_1 : w10.cell? ⟨gb240,1,none⟩ = some (.slice A0_1 l0_1.length c0_1):=(zD BK240.out 1).trans rfl;have hcz11_2 : w10.cell? ⟨gb240,2,none⟩ = some (.slice A0_2 l0_2.length c0_2):=(zD BK240.out 2).trans rfl;have hcz11_3 : w10.cell? ⟨gb240,3,none⟩ = some (.slice A0_3 l0_3.length c0_3):=(zD BK240.out 3).trans rfl;have hfz11_0:=zE BK240.out 0;have hfz11_1:=zE BK240.out 1;have hfz11_2:=zE BK240.out 2;have hfz11_3:=zE BK240.out 3;have p241 : 0 ≤ (a2 : Int):=of_decide_eq_true (by first|(with_reducible assumption)|assumption);have q241 : a2 < (l0_2.length : Int):=of_decide_eq_true (by first|(with_reducible assumption)|assumption);obtain ⟨ad241,e241,hx241_0⟩:=Kd.at_bool HR0_2.out a2 p241 q241;(try rw [← Nbq6.out] at hx241_0);cases e241;replace hx241_0:=(HB.out.cell (World.block_lt_of_cell? w _ hx241_0)).trans hx241_0;replace p241:=eq_true p241;replace q241:=eq_true q241;have p242 : 0 ≤ (a2 : Int):=of_decide_eq_true (by first|(with_reducible assumption)|assumption);have q242 : a2 < (l0_0.length : Int):=of_decide_eq_true (by first|(with_reducible assumption)|assumption);obtain ⟨ad242,e242,hx242_0⟩:=Kd.at_int HR0_0.out a2 p242 q242;cases e242;replace hx242_0:=(HB.out.cell (World.block_lt_of_cell? w _ hx242_0)).trans hx242_0;replace p242:=eq_true p242;replace q242:=eq_true q242))
      go_ret
      exact ⟨by first|rfl|(simp [errW_none,errW_some] <;> rfl)|(simp [*,errW_none,errW_some] <;> rfl),by repeat (first|(with_reducible first|exact HB.out|apply zA|apply zB|apply zC|refine zF ?_ GE240.out)|exact HB.out)⟩
     ·rw [if_neg c9] at H;have c9b0 : decide ((rd l0_0 a2) < 0) = false:=decide_eq_false c9;clear c9;by_cases c12 : 0 ≤ (rd l0_0 a2)
      ·rw [if_pos c12] at H;have c12b0 : decide (0 ≤ (rd l0_0 a2)) = true:=decide_eq_true c12;clear c12;by_cases c13 : (rd l0_0 a2) < (l1.length : Int)
       ·rw [if_pos c13] at H;have c13b0 : decide ((rd l0_0 a2) < (l1.length : Int)) = true:=decide_eq_true c13;clear c13;by_cases c14 : (wrap64 ((rd l1 (rd l0_0 a2)) + 1)) > 3
        ·rw [if_pos c14] at H;have c14b0 : decide (3 < (wrap64 ((rd l1 (rd l0_0 a2)) + 1))) = true:=decide_eq_true c14;clear c14;obtain rfl:=Option.some.inj H;go_enter Try.func71,Try.ntmps71
         go_wp2_with (first|((with_reducible refine zM (N:=3) rfl ?_);refine zN ?hg (N:=3) ?hd (cs:=#[.slice A0_0 l0_0.length c0_0,.slice A0_1 l0_1.length c0_1,.slice A0_2 l0_2.length c0_2,.slice A0_3 l0_3.length c0_3]) (t:=27) ?hr ?_;(case hd=>rfl);(case hg=>rfl);(case hr=>first|(go_simp;done)|(go_simp;rfl));intro gb240 hg w15 hbox hb;have n0_:=zm (zK (by repeat (first|(with_reducible first|exact HB.out|apply zA|apply zB|apply zC)|exact HB.out)) hb);have n1_:=zm (hbox);have n2_:=zm ((by rw [hg];exact (zJ (by repeat (first|(with_reducible first|exact HB.out|apply zA|apply zB|apply zC)|exact HB.out))) : w.heap.size ≤ gb240));have n3_:=zm ((by rw [hg];exact (zJ (by repeat (first|(with_reducible first|exact HB.out|apply zA|apply zB|apply zC)|exact HB.out))) : w.heap.size ≤ gb240));clear HB;have HB:=n0_;have BK240:=n1_;have GW240:=n2_;have GE240:=n3_;clear n0_ n1_ n2_ n3_;clear hb hbox hg;have hcz16_0 : w15.cell? ⟨gb240,0,none⟩ = some (.slice A0_0 l0_0.length c0_0):=(zD BK240.out 0).trans rfl;have hcz16_1 : w15.cell? ⟨gb240,1,none⟩ = some (.slice A0_1 l0_1.length c0_1):=(zD BK240.out 1).trans rfl;have hcz16_2 : w15.cell? ⟨gb240,2,none⟩ = some (.slice A0_2 l0_2.length c0_2):=(zD BK240.out 2).trans rfl;have hcz16_3 : w15.cell? ⟨gb240,3,none⟩ = some (.slice A0_3 l0_3.length c0_3):=(zD BK240.out 3).trans rfl;have hfz16_0:=zE BK240.out 0;have hfz16_1:=zE BK240.out 1;have hfz16_2:=zE BK240.out 2;have hfz16_3:=zE BK240.out 3;have p241 : 0 ≤ (a2 : Int):=of_decide_eq_true (by first|(with_reducible assumption)|assumption);have q241 : a2 < (l0_2.length : Int):=of_decide_eq_true (by first|(with_reducible assumption)|assumption);obtain ⟨ad241,e241,hx241_0⟩:=Kd.at_bool HR0_2.out a2 p241 q241;(try rw [← Nbq6.out] at hx241_0);cases e241;replace hx241_0:=(HB.out.cell (World.block_lt_of_cell? w _ hx241_0)).trans hx241_0;replace p241:=eq_true p241;replace q241:=eq_true q241;have p242 : 0 ≤ (a2 : Int):=of_decide_eq_true (by first|(with_reducible assumption)|assumption);have q242 : a2 < (l0_0.length : Int):=of_decide_eq_true (by first|(with_reducible assumption)|assumption);obtain ⟨ad242,e242,hx242_0⟩:=Kd.at_int HR0_0.out a2 p242 q242;cases e242;replace hx242_0:=(HB.out.cell (World.block_lt_of_cell? w _ hx242_0)).trans hx242_0;replace p242:=eq_true p242;replace q242:=eq_true q242;have p243 : 0 ≤ ((rd l0_0 a2) : Int):=of_decide_eq_true (by first|(with_reducible assumption)|assumption);have q243 : (rd l0_0 a2) < (l1.length : Int):=of_decide_eq_true (by first|(with_reducible assumption)|assumption);obtain ⟨ad243,e243,hx243_0⟩:=Kd.at_int HR1.out (rd l0_0 a2) p243 q243;cases e243;replace hx243_0:=(HB.out.cell (World.block_lt_of_cell? w _ hx243_0)).trans hx243_0;replace p243:=eq_true p243;replace q243:=eq_true q243))
         go_ret
         exact ⟨by first|rfl|(simp [errW_none,errW_some] <;> rfl)|(simp [*,errW_none,errW_some] <;> rfl),by repeat (first|(with_reducible first|exact HB.out|apply zA|apply zB|apply zC|refine zF ?_ GE240.out)|exact HB.out)⟩
        ·rw [if_neg c14] at H;have c14b0 : decide (3 < (wrap64 ((rd l1 (rd l0_0 a2)) + 1))) = false:=decide_eq_false c14;clear c14;obtain rfl:=Option.some.inj H;go_enter Try.func71,Try.ntmps71
         go_wp2_with (first|((with_reducible refine zM (N:=3) rfl ?_);refine zN ?hg (N:=3) ?hd (cs:=#[.slice A0_0 l0_0.length c0_0,.slice A0_1 l0_1.length c0_1,.slice A0_2 l0_2.length c0_2,.slice A0_3 l0_3.length c0_3]) (t:=27) ?hr ?_;(case hd=>rfl);(case hg=>rfl);(case hr=>first|(go_simp;done)|(go_simp;rfl));intro gb240 hg w17 hbox hb;have n0_:=zm (zK (by repeat (first|(with_reducible first|exact HB.out|apply zA|apply zB|apply zC)|exact HB.out)) hb);have n1_:=zm (hbox);have n2_:=zm ((by rw [hg];exact (zJ (by repeat (first|(with_reducible first|exact HB.out|apply zA|apply zB|apply zC)|exact HB.out))) : w.heap.size ≤ gb240));have n3_:=zm ((by rw [hg];exact (zJ (by repeat (first|(with_reducible first|exact HB.out|apply zA|apply zB|apply zC)|exact HB.out))) : w.heap.size ≤ gb240));clear HB;have HB:=n0_;have BK240:=n1_;have GW240:=n2_;have GE240:=n3_;clear n0_ n1_ n2_ n3_;clear hb hbox hg;have hcz18_0 : w17.cell? ⟨gb240,0,none⟩ = some (.slice A0_0 l0_0.length c0_0):=(zD BK240.out 0).trans rfl;have hcz18_1 : w17.cell? ⟨gb240,1,none⟩ = some (.slice A0_1 l0_1.length c0_1):=(zD BK240.out 1).trans rfl;have hcz18_2 : w17.cell? ⟨gb240,2,none⟩ = some (.slice A0_2 l0_2.length c0_2):=(zD BK240.out 2).trans rfl;have hcz18_3 : w17.cell? ⟨gb240,3,none⟩ = some (.slice A0_3 l0_3.length c0_3):=(zD BK240.out 3).trans rfl;have hfz18_0:=zE BK240.out 0;have hfz18_1:=zE BK240.out 1;have hfz18_2:=zE BK240.out 2;have hfz18_3:=zE BK240.out 3;have p241 : 0 ≤ (a2 : Int):=of_decide_eq_true (by first|(with_reducible assumption)|assumption);have q241 : a2 < (l0_2.length : Int):=of_decide_eq_true (by first|(with_reducible assumption)|assumption);obtain ⟨ad241,e241,hx241_0⟩:=Kd.at_bool HR0_2.out a2 p241 q241;(try rw [← Nbq6.out] at hx241_0);cases e241;replace hx241_0:=(HB.out.cell (World.block_lt_of_cell? w _ hx241_0)).trans hx241_0;replace p241:=eq_true p241;replace q241:=eq_true q241;have p242 : 0 ≤ (a2 : Int):=of_decide_eq_true (by first|(with_reducible assumption)|assumption);have q242 : a2 < (l0_0.length : Int):=of_decide_eq_true (by first|(with_reducible assumption)|assumption);obtain ⟨ad242,e242,hx242_0⟩:=Kd.at_int HR0_0.out a2 p242 q242;cases e242;replace hx242_0:=(HB.out.cell (World.block_lt_of_cell? w _ hx242_0)).trans hx242_0;replace p242:=eq_true p242;replace q242:=eq_true q242;have p243 : 0 ≤ ((rd l0_0 a2) : Int):=of_decide_eq_true (by first|(with_reducible assumption)|assumption);have q243 : (rd l0_0 a2) < (l1.length : Int):=of_decide_eq_true (by first|(with_reducible assumption)|assumption);obtain ⟨ad243,e243,hx243_0⟩:=Kd.at_int HR1.out (rd l0_0 a2) p243 q243;cases e243;replace hx243_0:=(HB.out.cell (World.block_lt_of_cell? w _ hx243_0)).trans hx243_0;replace p243:=eq_true p243;replace q243:=eq_true q243;have p244 : 0 ≤ ((rd l0_0 a2) : Int):=of_decide_eq_true (by first|(with_reducible assumption)|assumption);have q244 : (rd l0_0 a2) < (l1.length : Int):=of_decide_eq_true (by first|(with_reducible assumption)|assumption);obtain ⟨ad244,e244,hx244_0⟩:=Kd.at_int HR1.out (rd l0_0 a2) p244 q244;obtain rfl : ad243 = ad244:=(by injection e244);replace hx244_0:=(HB.out.cell (World.block_lt_of_cell? w _ hx244_0)).trans hx244_0;replace p244:=eq_true p244;replace q244:=eq_true q244))
         go_ret
         exact ⟨by first|rfl|(simp [errW_none,errW_some] <;> rfl)|(simp [*,errW_none,errW_some] <;> rfl),by repeat (first|(with_reducible first|exact HB.out|apply zA|apply zB|apply zC|refine zF ?_ GE240.out)|exact HB.out)⟩
       ·rw [if_neg c13] at H;exact absurd H (by simp)
      ·rw [if_neg c12] at H;exact absurd H (by simp)
    ·rw [if_neg c8] at H;exact absurd H (by simp)
   ·replace c7:=Bool.eq_false_iff.mpr c7;subst c7
    have H1 : (some 0) = some r:=by rw [if_neg (show ¬ (false = true) by decide)] at H;exact H
    clear H;have H:=H1;clear H1;obtain rfl:=Option.some.inj H;go_enter Try.func71,Try.ntmps71
    go_wp2_with (first|((with_reducible refine zM (N:=3) rfl ?_);refine zN ?hg (N:=3) ?hd (cs:=#[.slice A0_0 l0_0.length c0_0,.slice A0_1 l0_1.length c0_1,.slice A0_2 l0_2.length c0_2,.slice A0_3 l0_3.length c0_3]) (t:=27) ?hr ?_;(case hd=>rfl);(case hg=>rfl);(case hr=>first|(go_simp;done)|(go_simp;rfl));intro gb240 hg w19 hbox hb;have n0_:=zm (zK (by repeat (first|(with_reducible first|exact HB.out|apply zA|apply zB|apply zC)|exact HB.out)) hb);have n1_:=zm (hbox);have n2_:=zm ((by rw [hg];exact (zJ (by repeat (first|(with_reducible first|exact HB.out|apply zA|apply zB|apply zC)|exact HB.out))) : w.heap.size ≤ gb240));have n3_:=zm ((by rw [hg];exact (zJ (by repeat (first|(with_reducible first|exact HB.out|apply zA|apply zB|apply zC)|exact HB.out))) : w.heap.size ≤ gb240));clear HB;have HB:=n0_;have BK240:=n1_;have GW240:=n2_;have GE240:=n3_;clear n0_ n1_ n2_ n3_;clear hb hbox hg;have hcz20_0 : w19.cell? ⟨gb240,0,none⟩ = some (.slice A0_0 l0_0.length c0_0):=(zD BK240.out 0).trans rfl;have hcz20_1 : w19.cell? ⟨gb240,1,none⟩ = some (.slice A0_1 l0_1.length c0_1):=(zD BK240.out 1).trans rfl;have hcz20_2 : w19.cell? ⟨gb240,2,none⟩ = some (.slice A0_2 l0_2.length c0_2):=(zD BK240.out 2).trans rfl;have hcz20_3 : w19.cell? ⟨gb240,3,none⟩ = some (.slice A0_3 l0_3.length c0_3):=(zD BK240.out 3).trans rfl;have hfz20_0:=zE BK240.out 0;have hfz20_1:=zE BK240.out 1;have hfz20_2:=zE BK240.out 2;have hfz20_3:=zE BK240.out 3;have p241 : 0 ≤ (a2 : Int):=of_decide_eq_true (by first|(with_reducible assumption)|assumption);have q241 : a2 < (l0_2.length : Int):=of_decide_eq_true (by first|(with_reducible assumption)|assumption);obtain ⟨ad241,e241,hx241_0⟩:=Kd.at_bool HR0_2.out a2 p241 q241;(try rw [← Nbq6.out] at hx241_0);cases e241;replace hx241_0:=(HB.out.cell (World.block_lt_of_cell? w _ hx241_0)).trans hx241_0;replace p241:=eq_true p241;replace q241:=eq_true q241))
    go_ret
    exact ⟨by first|rfl|(simp [errW_none,errW_some] <;> rfl)|(simp [*,errW_none,errW_some] <;> rfl),by repeat (first|(with_reducible first|exact HB.out|apply zA|apply zB|apply zC|refine zF ?_ GE240.out)|exact HB.out)⟩
  ·rw [if_neg c5] at H;exact absurd H (by simp)
 ·rw [if_neg c4] at H;exact absurd H (by simp)

end Go.Proofs.Ytpdcghclcgbcfaa.T
