-- written by a program of this session (after the kit's print), not trusted: Lean checks it
import Derived.Test.YtpdcghclcgbcfabXx0
import Derived.Test.YtpdcghclcgbcfabXx4
namespace Go.Proofs.Ytpdcghclcgbcfab.X
open Go.RowKit Go.Proofs.YtpdcghclcgbcfabW.PrintWords Go.Proofs.YtpdcghclcgbcfabW.PrintLast Go.Proofs.YtpdcghclcgbcfabW.PrintMore
open Go.Proofs.YtpdcghclcgbcfabW.PrintWords renaming below_alloc → zA, below_drew1 → zC, below_set → zF, below_size → zJ, below_step → zK, blk_alloc → zG, blk_below → zL, blk_cell → zD, blk_drew → zI, blk_drewN → zH, blk_frozen → zE, box_event → zN, gate_dst → zM, pw_below_drewN → zB
open Go.Proofs.YtpdcghclcgbcfabW.PrintWords.Aside0 renaming mk → zm
attribute [local go_sem] max2_int min2_int max_two min_two max_three min_three max_four min_four   -- for this text's walks alone
set_option linter.unusedVariables false
set_option linter.unusedSimpArgs false

/-! ### spec_l4line: function 52 -/
mutual
def spec_l4line.j0 : Nat→Int→ByteArray→List Int→List Int→List Bool→List (List Bool)→Option (ByteArray)
 | 0,_,_,_,_,_,_=>none
 | k + 1,x1,x5,x120000,x120001,x120002,x120003=>if x5.size + 7 ≤ 9223372036854775807 then (if 0 ≤ x1 then (if x1 < (x120003.length : Int) then (spec_l4line.l0 k x1 (x5 ++ (⟨#[32,108,97,109,112,115,32]⟩ : ByteArray)) (rd_L1 x120003 x1) ((rd_L1 x120003 x1).length : Int) 0 x120000 x120001 x120002 x120003) else (none)) else (none)) else (none)
def spec_l4line.l0 : Nat→Int→ByteArray→List Bool→Int→Int→List Int→List Int→List Bool→List (List Bool)→Option (ByteArray)
 | 0,_,_,_,_,_,_,_,_,_=>none
 | k + 1,x1,x5,x19,x20,x21,x120000,x120001,x120002,x120003=>if x21 < x20 then (if 0 ≤ x21 then (if x21 < (x19.length : Int) then (if rdOf false x19 x21 = true then ((spec_l4decimal.f k x21).bind fun t123=>(if x5.size + t123.size ≤ 9223372036854775807 then (spec_l4line.l0 k x1 (x5 ++ t123) x19 x20 (wrap64 (x21 + 1)) x120000 x120001 x120002 x120003) else (none))) else (if x5.size + 1 ≤ 9223372036854775807 then (spec_l4line.l0 k x1 (x5 ++ (⟨#[45]⟩ : ByteArray)) x19 x20 (wrap64 (x21 + 1)) x120000 x120001 x120002 x120003) else (none))) else (none)) else (none)) else (if 0 ≤ x1 then (if x1 < (x120000.length : Int) then (if (rd x120000 x1) ≥ 0 then ((spec_l4decimal.f k (rd x120000 x1)).bind fun t126=>(if 6 + t126.size ≤ 9223372036854775807 then (if x5.size + ((⟨#[32,110,101,120,116,32]⟩ : ByteArray) ++ t126).size ≤ 9223372036854775807 then (if (x5 ++ ((⟨#[32,110,101,120,116,32]⟩ : ByteArray) ++ t126)).size + 5 ≤ 9223372036854775807 then (if x1 < (x120001.length : Int) then ((spec_l4decimal.f k (rd x120001 x1)).bind fun t128=>(if ((x5 ++ ((⟨#[32,110,101,120,116,32]⟩ : ByteArray) ++ t126)) ++ (⟨#[32,102,97,114,32]⟩ : ByteArray)).size + t128.size ≤ 9223372036854775807 then (some (((x5 ++ ((⟨#[32,110,101,120,116,32]⟩ : ByteArray) ++ t126)) ++ (⟨#[32,102,97,114,32]⟩ : ByteArray)) ++ t128)) else (none))) else (none)) else (none)) else (none)) else (none))) else (if x5.size + 4 ≤ 9223372036854775807 then (if (x5 ++ (⟨#[32,101,110,100]⟩ : ByteArray)).size + 5 ≤ 9223372036854775807 then (if x1 < (x120001.length : Int) then ((spec_l4decimal.f k (rd x120001 x1)).bind fun t130=>(if ((x5 ++ (⟨#[32,101,110,100]⟩ : ByteArray)) ++ (⟨#[32,102,97,114,32]⟩ : ByteArray)).size + t130.size ≤ 9223372036854775807 then (some (((x5 ++ (⟨#[32,101,110,100]⟩ : ByteArray)) ++ (⟨#[32,102,97,114,32]⟩ : ByteArray)) ++ t130)) else (none))) else (none)) else (none)) else (none))) else (none)) else (none))
end
def spec_l4line.f (k : Nat) (l0_0 : List Int) (l0_1 : List Int) (l0_2 : List Bool) (l0_3 : List (List Bool)) (a1 : Int) : Option (ByteArray):=if 0 ≤ a1 then (if a1 < (l0_2.length : Int) then (if rdOf false l0_2 a1 = true then (spec_l4line.j0 k a1 (⟨#[111,112,101,110]⟩ : ByteArray) l0_0 l0_1 l0_2 l0_3) else (spec_l4line.j0 k a1 (⟨#[115,104,117,116]⟩ : ByteArray) l0_0 l0_1 l0_2 l0_3)) else (none)) else (none)
theorem spec_l4line.mono_l : ∀ k,(∀ y0 y1 y2 y3 y4 y5,LeO (spec_l4line.j0 k y0 y1 y2 y3 y4 y5) (spec_l4line.j0 (k + 1) y0 y1 y2 y3 y4 y5))∧(∀ y0 y1 y2 y3 y4 y5 y6 y7 y8,LeO (spec_l4line.l0 k y0 y1 y2 y3 y4 y5 y6 y7 y8) (spec_l4line.l0 (k + 1) y0 y1 y2 y3 y4 y5 y6 y7 y8))
 | 0=>⟨fun _ _ _ _ _ _ r h=>by simp [spec_l4line.j0] at h,fun _ _ _ _ _ _ _ _ _ r h=>by simp [spec_l4line.l0] at h⟩
 | k + 1=>by
  obtain ⟨ih0,ih1⟩:=spec_l4line.mono_l k;refine ⟨?_,?_⟩
  ·intro y0 y1 y2 y3 y4 y5
   unfold spec_l4line.j0
   repeat' first
   | (with_reducible exact ih0 _ _ _ _ _ _)
   | (with_reducible exact ih1 _ _ _ _ _ _ _ _ _)
   | (with_reducible exact spec_l4decimal.mono _ _)
   | (with_reducible exact LeO.refl _)
   | (with_reducible exact LeO.none _)
   | (with_reducible refine LeO.ite ?_ ?_)
   | (with_reducible refine LeO.bind ?_ (fun _=>?_))
   | exact ih0 _ _ _ _ _ _
   | exact ih1 _ _ _ _ _ _ _ _ _
   | exact spec_l4decimal.mono _ _
   | exact LeO.none _
   | refine LeO.ite ?_ ?_
   | refine LeO.bind ?_ (fun _=>?_)
  ·intro y0 y1 y2 y3 y4 y5 y6 y7 y8
   unfold spec_l4line.l0
   repeat' first
   | (with_reducible exact ih0 _ _ _ _ _ _)
   | (with_reducible exact ih1 _ _ _ _ _ _ _ _ _)
   | (with_reducible exact spec_l4decimal.mono _ _)
   | (with_reducible exact LeO.refl _)
   | (with_reducible exact LeO.none _)
   | (with_reducible refine LeO.ite ?_ ?_)
   | (with_reducible refine LeO.bind ?_ (fun _=>?_))
   | exact ih0 _ _ _ _ _ _
   | exact ih1 _ _ _ _ _ _ _ _ _
   | exact spec_l4decimal.mono _ _
   | exact LeO.none _
   | refine LeO.ite ?_ ?_
   | refine LeO.bind ?_ (fun _=>?_)
theorem spec_l4line.mono : ∀ a0 a1 a2 a3 a4 k,LeO (spec_l4line.f k a0 a1 a2 a3 a4) (spec_l4line.f (k + 1) a0 a1 a2 a3 a4):=by
 intro a0 a1 a2 a3 a4 k
 obtain ⟨ih0,ih1⟩:=spec_l4line.mono_l k;unfold spec_l4line.f
 repeat' first
   | (with_reducible exact ih0 _ _ _ _ _ _)
   | (with_reducible exact ih1 _ _ _ _ _ _ _ _ _)
   | (with_reducible exact spec_l4decimal.mono _ _)
   | (with_reducible exact LeO.refl _)
   | (with_reducible exact LeO.none _)
   | (with_reducible refine LeO.ite ?_ ?_)
   | (with_reducible refine LeO.bind ?_ (fun _=>?_))
   | exact ih0 _ _ _ _ _ _
   | exact ih1 _ _ _ _ _ _ _ _ _
   | exact spec_l4decimal.mono _ _
   | exact LeO.none _
   | refine LeO.ite ?_ ?_
   | refine LeO.bind ?_ (fun _=>?_)
set_option maxHeartbeats 8000000 in
set_option maxRecDepth 100000 in
theorem spec_l4line.calls (k : Nat) (A0_0 : Option Addr) (c0_0 : Nat) (l0_0 : List Int) (A0_1 : Option Addr) (c0_1 : Nat) (l0_1 : List Int) (A0_2 : Option Addr) (c0_2 : Nat) (l0_2 : List Bool) (A0_3 : Option Addr) (c0_3 : Nat) (l0_3 : List (List Bool)) (a1 : Int) (r : ByteArray) (w : World) (hr0_0 : Kd.C (Kd.int .i64) w A0_0 l0_0.length l0_0) (hc0_0 : l0_0.length ≤ c0_0) (hr0_1 : Kd.C (Kd.int .i64) w A0_1 l0_1.length l0_1) (hc0_1 : l0_1.length ≤ c0_1) (hr0_2 : Kd.C Kd.bool w A0_2 l0_2.length l0_2) (hc0_2 : l0_2.length ≤ c0_2) (hr0_3 : Kd.C (Kd.slice 4 Kd.bool) w A0_3 l0_3.length l0_3) (hc0_3 : l0_3.length ≤ c0_3) (h : spec_l4line.f k l0_0 l0_1 l0_2 l0_3 a1 = some r) :
  Calls Try.prog 52 #[.agg #[.slice A0_0 l0_0.length c0_0,.slice A0_1 l0_1.length c0_1,.slice A0_2 l0_2.length c0_2,.slice A0_3 l0_3.length c0_3],.int .i64 a1] w fun e w'=>e = .returned (.string r)∧Below w.heap.size w w':=by
 have hu30:=Try.underlying30;have HR0_0:=zm hr0_0;have HC0_0:=zm hc0_0;clear hr0_0 hc0_0;have HR0_1:=zm hr0_1;have HC0_1:=zm hc0_1;clear hr0_1 hc0_1;have HR0_2:=zm hr0_2;have HC0_2:=zm hc0_2;clear hr0_2 hc0_2;have HR0_3:=zm hr0_3;have HC0_3:=zm hc0_3;clear hr0_3 hc0_3;have HB:=zm (Below.refl w.heap.size w);have H : (if 0 ≤ a1 then (if a1 < (l0_2.length : Int) then (if rdOf false l0_2 a1 = true then (spec_l4line.j0 k a1 (⟨#[111,112,101,110]⟩ : ByteArray) l0_0 l0_1 l0_2 l0_3) else (spec_l4line.j0 k a1 (⟨#[115,104,117,116]⟩ : ByteArray) l0_0 l0_1 l0_2 l0_3)) else (none)) else (none)) = some r:=h;clear h;by_cases c3 : 0 ≤ a1
 ·rw [if_pos c3] at H;have c3b0 : decide (0 ≤ a1) = true:=decide_eq_true c3;clear c3;by_cases c4 : a1 < (l0_2.length : Int)
  ·rw [if_pos c4] at H;have c4b0 : decide (a1 < (l0_2.length : Int)) = true:=decide_eq_true c4;clear c4;have HC5:=zm H;clear H;go_enter Try.func52,Try.ntmps52
   go_upto_if 12 with (first|((with_reducible refine zM (N:=2) rfl ?_);refine zN ?hg (N:=2) ?hd (cs:=#[.slice A0_0 l0_0.length c0_0,.slice A0_1 l0_1.length c0_1,.slice A0_2 l0_2.length c0_2,.slice A0_3 l0_3.length c0_3]) (t:=30) ?hr ?_;(case hd=>rfl);(case hg=>rfl);(case hr=>first|(go_simp;done)|(go_simp;rfl));intro gb119 hg w6 hbox hb;have n0_:=zm (zK (by repeat (first|(with_reducible first|exact HB.out|apply zA|apply zB|apply zC)|exact HB.out)) hb);have n1_:=zm (hbox);have n2_:=zm ((by rw [hg];exact (zJ (by repeat (first|(with_reducible first|exact HB.out|apply zA|apply zB|apply zC)|exact HB.out))) : w.heap.size ≤ gb119));have n3_:=zm ((by rw [hg];exact (zJ (by repeat (first|(with_reducible first|exact HB.out|apply zA|apply zB|apply zC)|exact HB.out))) : w.heap.size ≤ gb119));clear HB;have HB:=n0_;have BK119:=n1_;have GW119:=n2_;have GE119:=n3_;clear n0_ n1_ n2_ n3_;clear hb hbox hg;have hcz7_0 : w6.cell? ⟨gb119,0,none⟩ = some (.slice A0_0 l0_0.length c0_0):=(zD BK119.out 0).trans rfl;have hcz7_1 : w6.cell? ⟨gb119,1,none⟩ = some (.slice A0_1 l0_1.length c0_1):=(zD BK119.out 1).trans rfl;have hcz7_2 : w6.cell? ⟨gb119,2,none⟩ = some (.slice A0_2 l0_2.length c0_2):=(zD BK119.out 2).trans rfl;have hcz7_3 : w6.cell? ⟨gb119,3,none⟩ = some (.slice A0_3 l0_3.length c0_3):=(zD BK119.out 3).trans rfl;have hfz7_0:=zE BK119.out 0;have hfz7_1:=zE BK119.out 1;have hfz7_2:=zE BK119.out 2;have hfz7_3:=zE BK119.out 3;have p120 : 0 ≤ (a1 : Int):=of_decide_eq_true (by first|(with_reducible assumption)|assumption);have q120 : a1 < (l0_2.length : Int):=of_decide_eq_true (by first|(with_reducible assumption)|assumption);obtain ⟨ad120,e120,hx120_0⟩:=Kd.at_bool HR0_2.out a1 p120 q120;cases e120;replace hx120_0:=(HB.out.cell (World.block_lt_of_cell? w _ hx120_0)).trans hx120_0;replace p120:=eq_true p120;replace q120:=eq_true q120))
   (try simp only [Act.put,List.setIfInBounds_toArray,List.set_cons_zero,List.set_cons_succ]);go_cut [5] (fun v5 wc=>∃ (kq : Nat) (x5_4 : ByteArray),v5 = .string x5_4∧Aside0 (spec_l4line.j0 kq a1 x5_4 l0_0 l0_1 l0_2 l0_3 = some r)∧Aside0 (kq ≤ k)∧Aside0 (wc.heap[gb119]? = some (.cells #[(.slice A0_0 l0_0.length c0_0),(.slice A0_1 l0_1.length c0_1),(.slice (some ad120) l0_2.length c0_2),(.slice A0_3 l0_3.length c0_3)] 30 (0,0)))∧Aside0 (Below w.heap.size w wc))
   case first =>
    have H:=HC5.out;clear HC5;obtain ⟨bq8,hbq8⟩ : ∃ b_ : Bool,b_ = (rdOf false l0_2 a1):=⟨_,rfl⟩;replace H : (if bq8 = true then (spec_l4line.j0 k a1 (⟨#[111,112,101,110]⟩ : ByteArray) l0_0 l0_1 l0_2 l0_3) else (spec_l4line.j0 k a1 (⟨#[115,104,117,116]⟩ : ByteArray) l0_0 l0_1 l0_2 l0_3)) = some r:=by rw [← hbq8] at H;exact H
    have Nbq8:=zm hbq8;clear hbq8;(try rw [← Nbq8.out]);by_cases c9 : bq8 = true
    ·subst c9
     have H1 : (spec_l4line.j0 k a1 (⟨#[111,112,101,110]⟩ : ByteArray) l0_0 l0_1 l0_2 l0_3) = some r:=by rw [if_pos rfl] at H;exact H
     clear H;have H:=H1;clear H1;have H':=zm H;clear H;go_wp2;go_meet
     case rel=>exact ⟨_,((⟨#[111,112,101,110]⟩ : ByteArray)),(by first|rfl|(simp;done)|(simp [*];done)),H',⟨by first|omega|exact Nat.le_refl _⟩,⟨by (with_reducible repeat (first|refine zH ?_ _|refine zI ?_|refine zG ?_ _));exact BK119.out⟩,⟨by repeat (first|(with_reducible first|exact HB.out|apply zA|apply zB|apply zC|refine zF ?_ GE119.out)|exact HB.out)⟩⟩
    ·replace c9:=Bool.eq_false_iff.mpr c9;subst c9
     have H1 : (spec_l4line.j0 k a1 (⟨#[115,104,117,116]⟩ : ByteArray) l0_0 l0_1 l0_2 l0_3) = some r:=by rw [if_neg (show ¬ (false = true) by decide)] at H;exact H
     clear H;have H:=H1;clear H1;have H':=zm H;clear H;go_wp2;go_meet
     case rel=>exact ⟨_,((⟨#[115,104,117,116]⟩ : ByteArray)),(by first|rfl|(simp;done)|(simp [*];done)),H',⟨by first|omega|exact Nat.le_refl _⟩,⟨by (with_reducible repeat (first|refine zH ?_ _|refine zI ?_|refine zG ?_ _));exact BK119.out⟩,⟨by repeat (first|(with_reducible first|exact HB.out|apply zA|apply zB|apply zC|refine zF ?_ GE119.out)|exact HB.out)⟩⟩
   case rest =>
    clear HC5;(try clear p1);(try clear q1);(try clear hx1);(try clear p2);(try clear c3);(try clear c3b0);(try clear c4);(try clear c4b0);(try clear c5);(try clear q8);(try clear c9);(try clear hcz7_0);(try clear hcz7_1);(try clear hcz7_2);(try clear hcz7_3);(try clear hfz7_0);(try clear hfz7_1);(try clear hfz7_2);(try clear hfz7_3);(try clear hx120_0);(try clear p120);(try clear q120);obtain ⟨kq,x5_4,rfl,HA,HJ4,BK119,HB⟩:=hcut;cases kq with
    | zero=>exact absurd HA.out (by simp [spec_l4line.j0])
    | succ kj4 =>
     have H:=HA.out;clear HA;simp only [spec_l4line.j0] at H
     by_cases c10 : x5_4.size + 7 ≤ 9223372036854775807
     ·rw [if_pos c10] at H;have c10b0:=eq_true c10;have c10b1 : decide (x5_4.size + 7 ≤ 9223372036854775807) = true:=decide_eq_true c10;try have c10b2 : (9223372036854775807 < x5_4.size + 7) = False:=eq_false (Nat.not_lt.2 c10)
      by_cases c11 : 0 ≤ a1
      ·rw [if_pos c11] at H;have c11b0 : decide (0 ≤ a1) = true:=decide_eq_true c11;clear c11;by_cases c12 : a1 < (l0_3.length : Int)
       ·rw [if_pos c12] at H;have c12b0 : decide (a1 < (l0_3.length : Int)) = true:=decide_eq_true c12;clear c12;have H':=zm H;clear H;have hcz13_0 : wc.cell? ⟨gb119,0,none⟩ = some (.slice A0_0 l0_0.length c0_0):=(zD BK119.out 0).trans rfl;have hcz13_1 : wc.cell? ⟨gb119,1,none⟩ = some (.slice A0_1 l0_1.length c0_1):=(zD BK119.out 1).trans rfl;have hcz13_2 : wc.cell? ⟨gb119,2,none⟩ = some (.slice (some ad120) l0_2.length c0_2):=(zD BK119.out 2).trans rfl;have hcz13_3 : wc.cell? ⟨gb119,3,none⟩ = some (.slice A0_3 l0_3.length c0_3):=(zD BK119.out 3).trans rfl;have hfz13_0:=zE BK119.out 0;have hfz13_1:=zE BK119.out 1;have hfz13_2:=zE BK119.out 2;have hfz13_3:=zE BK119.out 3;have p121 : 0 ≤ (a1 : Int):=of_decide_eq_true (by first|(with_reducible assumption)|assumption)
        have q121 : a1 < (l0_3.length : Int):=of_decide_eq_true (by first|(with_reducible assumption)|assumption)
        obtain ⟨ad121,A121_0,c121_0,e121,hx121_0,hl121_0,hi121_0⟩:=at_L1 HR0_3.out a1 p121 q121;cases e121;replace hx121_0:=(HB.out.cell (World.block_lt_of_cell? w _ hx121_0)).trans hx121_0;have HR121_0:=zm hi121_0;have HC121_0:=zm hl121_0;clear hi121_0 hl121_0;replace p121:=eq_true p121;replace q121:=eq_true q121;go_wp2;go_loopg [5,21] kj4 (fun kq v5 v21 w'=>∃ (x5_2 : ByteArray) (x21_2 : Int),v5 = .string x5_2∧v21 = .int .i64 x21_2∧Aside0 (spec_l4line.l0 kq a1 x5_2 (rd_L1 l0_3 a1) ((rd_L1 l0_3 a1).length : Int) x21_2 l0_0 l0_1 l0_2 l0_3 = some r)∧Aside0 (kq ≤ kj4)∧Aside0 (w'.heap[gb119]? = some (.cells #[(.slice A0_0 l0_0.length c0_0),(.slice A0_1 l0_1.length c0_1),(.slice (some ad120) l0_2.length c0_2),(.slice (some ad121) l0_3.length c0_3)] 30 (0,0)))∧Aside0 (Below w.heap.size w w'))
        case atStart=>exact ⟨(x5_4 ++ (⟨#[32,108,97,109,112,115,32]⟩ : ByteArray)),(0),(by first|rfl|(simp;done)|(simp [*];done)),(by first|rfl|(simp;done)|(simp [*];done)),H',⟨Nat.le_refl _⟩,⟨by (with_reducible repeat (first|refine zH ?_ _|refine zI ?_|refine zG ?_ _));exact BK119.out⟩,⟨by repeat (first|(with_reducible first|exact HB.out|apply zA|apply zB|apply zC|refine zF ?_ GE119.out)|exact HB.out)⟩⟩
        case round =>
         clear H';(try clear c1);(try clear p1);(try clear q1);(try clear hx1);(try clear p2);(try clear c3);(try clear c3b0);(try clear c4);(try clear c4b0);(try clear c5);(try clear q8);(try clear c9);(try clear c10);(try clear c10b0);(try clear c10b1);(try clear c10b2);(try clear c11);(try clear c11b0);(try clear c12);(try clear c12b0);(try clear p12);(try clear q12);(try clear hx12);(try clear hcz13_0);(try clear hcz13_1);(try clear hcz13_2);(try clear hcz13_3);(try clear hcz7_0);(try clear hcz7_1);(try clear hcz7_2);(try clear hcz7_3);(try clear hfz13_0);(try clear hfz13_1);(try clear hfz13_2);(try clear hfz13_3);(try clear hfz7_0);(try clear hfz7_1);(try clear hfz7_2);(try clear hfz7_3);(try clear hx120_0);(try clear hx121_0);(try clear p1);(try clear p120);(try clear p121);(try clear p2);(try clear q1);(try clear q120);(try clear q121);(try clear q8);obtain ⟨x5_2,x21_2,rfl,rfl,HA,HK2,BK119,HB⟩:=hrel;cases gk with
         | zero=>exact absurd HA.out (by simp [spec_l4line.l0])
         | succ k2 =>
          have H:=HA.out;clear HA;simp only [spec_l4line.l0] at H
          by_cases c14 : x21_2 < ((rd_L1 l0_3 a1).length : Int)
          ·rw [if_pos c14] at H;have c14b0 : decide (x21_2 < ((rd_L1 l0_3 a1).length : Int)) = true:=decide_eq_true c14;clear c14;by_cases c15 : 0 ≤ x21_2
           ·rw [if_pos c15] at H;have c15b0 : decide (0 ≤ x21_2) = true:=decide_eq_true c15;clear c15;by_cases c16 : x21_2 < ((rd_L1 l0_3 a1).length : Int)
            ·rw [if_pos c16] at H;have c16b0 : decide (x21_2 < ((rd_L1 l0_3 a1).length : Int)) = true:=decide_eq_true c16;clear c16;obtain ⟨bq17,hbq17⟩ : ∃ b_ : Bool,b_ = (rdOf false (rd_L1 l0_3 a1) x21_2):=⟨_,rfl⟩;replace H : (if bq17 = true then ((spec_l4decimal.f k2 x21_2).bind fun t123=>(if x5_2.size + t123.size ≤ 9223372036854775807 then (spec_l4line.l0 k2 a1 (x5_2 ++ t123) (rd_L1 l0_3 a1) ((rd_L1 l0_3 a1).length : Int) (wrap64 (x21_2 + 1)) l0_0 l0_1 l0_2 l0_3) else (none))) else (if x5_2.size + 1 ≤ 9223372036854775807 then (spec_l4line.l0 k2 a1 (x5_2 ++ (⟨#[45]⟩ : ByteArray)) (rd_L1 l0_3 a1) ((rd_L1 l0_3 a1).length : Int) (wrap64 (x21_2 + 1)) l0_0 l0_1 l0_2 l0_3) else (none))) = some r:=by rw [← hbq17] at H;exact H
             have Nbq17:=zm hbq17;clear hbq17;by_cases c18 : bq17 = true
             ·subst c18
              have H1 : ((spec_l4decimal.f k2 x21_2).bind fun t123=>(if x5_2.size + t123.size ≤ 9223372036854775807 then (spec_l4line.l0 k2 a1 (x5_2 ++ t123) (rd_L1 l0_3 a1) ((rd_L1 l0_3 a1).length : Int) (wrap64 (x21_2 + 1)) l0_0 l0_1 l0_2 l0_3) else (none))) = some r:=by rw [if_pos rfl] at H;exact H
              clear H;have H:=H1;clear H1;replace H:=Option.bind_eq_some_iff.mp H;obtain ⟨t123,A190,H⟩:=H;replace H : (if x5_2.size + t123.size ≤ 9223372036854775807 then (spec_l4line.l0 k2 a1 (x5_2 ++ t123) (rd_L1 l0_3 a1) ((rd_L1 l0_3 a1).length : Int) (wrap64 (x21_2 + 1)) l0_0 l0_1 l0_2 l0_3) else (none)) = some r:=H;have A19:=zm A190;clear A190;by_cases c20 : x5_2.size + t123.size ≤ 9223372036854775807
              ·rw [if_pos c20] at H;have c20b0:=eq_true c20;have c20b1 : decide (x5_2.size + t123.size ≤ 9223372036854775807) = true:=decide_eq_true c20;try have c20b2 : (9223372036854775807 < x5_2.size + t123.size) = False:=eq_false (Nat.not_lt.2 c20)
               have H':=zm H;clear H;have p122 : 0 ≤ (x21_2 : Int):=of_decide_eq_true (by first|(with_reducible assumption)|assumption)
               have q122 : x21_2 < ((rd_L1 l0_3 a1).length : Int):=of_decide_eq_true (by first|(with_reducible assumption)|assumption)
               obtain ⟨ad122,e122,hx122_0⟩:=Kd.at_bool HR121_0.out x21_2 p122 q122;(try rw [← Nbq17.out] at hx122_0);cases e122;replace hx122_0:=(HB.out.cell (World.block_lt_of_cell? w _ hx122_0)).trans hx122_0;replace p122:=eq_true p122;replace q122:=eq_true q122;go_wp2_with (first|((with_reducible refine gate_callee (f:=62) rfl ?_);refine goesL_ (some 29) rfl rfl Try.func62 (by kernel_rfl) rfl #[.int .i64 x21_2] rfl (by (try simp only [List.map_toArray,List.map_cons,List.map_nil]);first|done|rfl|(simp only [List.length_drop,List.length_take];rfl)) ?_;(with_reducible refine (spec_l4decimal.calls k2 x21_2 t123 _ A19.out).mono ?_);rintro e w21 ⟨rfl,hb⟩;refine ⟨_,rfl,?_⟩;have n0_:=zm (zL (g:=gb119) (o:=.cells #[.slice A0_0 l0_0.length c0_0,.slice A0_1 l0_1.length c0_1,.slice (some ad120) l0_2.length c0_2,.slice (some ad121) l0_3.length c0_3] 30 (0,0)) (by (with_reducible repeat (first|refine zH ?_ _|refine zI ?_|refine zG ?_ _));exact BK119.out) hb);have n1_:=zm (zK (by repeat (first|(with_reducible first|exact HB.out|apply zA|apply zB|apply zC|refine zF ?_ GE119.out)|exact HB.out)) hb);clear BK119;clear HB;have BK119:=n0_;have HB:=n1_;clear n0_ n1_;(try clear hb);(try clear hb2);(try clear hk);(try clear hi)))
               go_roundg k2
               case measure=>have:=HJ4.out;have:=HK2.out;omega
               case rel=>exact ⟨(x5_2 ++ t123),(wrap64 (x21_2 + 1)),(by first|rfl|(simp;done)|(simp [*];done)),(by first|rfl|(simp;done)|(simp [*];done)),H',⟨by have:=HJ4.out;have:=HK2.out;omega⟩,⟨by (with_reducible repeat (first|refine zH ?_ _|refine zI ?_|refine zG ?_ _));exact BK119.out⟩,⟨by repeat (first|(with_reducible first|exact HB.out|apply zA|apply zB|apply zC|refine zF ?_ GE119.out)|exact HB.out)⟩⟩
              ·rw [if_neg c20] at H;exact absurd H (by simp)
             ·replace c18:=Bool.eq_false_iff.mpr c18;subst c18
              have H1 : (if x5_2.size + 1 ≤ 9223372036854775807 then (spec_l4line.l0 k2 a1 (x5_2 ++ (⟨#[45]⟩ : ByteArray)) (rd_L1 l0_3 a1) ((rd_L1 l0_3 a1).length : Int) (wrap64 (x21_2 + 1)) l0_0 l0_1 l0_2 l0_3) else (none)) = some r:=by rw [if_neg (show ¬ (false = true) by decide)] at H;exact H
              clear H;have H:=H1;clear H1;by_cases c22 : x5_2.size + 1 ≤ 9223372036854775807
              ·rw [if_pos c22] at H;have c22b0:=eq_true c22;have c22b1 : decide (x5_2.size + 1 ≤ 9223372036854775807) = true:=decide_eq_true c22;try have c22b2 : (9223372036854775807 < x5_2.size + 1) = False:=eq_false (Nat.not_lt.2 c22)
               have H':=zm H;clear H;have p122 : 0 ≤ (x21_2 : Int):=of_decide_eq_true (by first|(with_reducible assumption)|assumption)
               have q122 : x21_2 < ((rd_L1 l0_3 a1).length : Int):=of_decide_eq_true (by first|(with_reducible assumption)|assumption)
               obtain ⟨ad122,e122,hx122_0⟩:=Kd.at_bool HR121_0.out x21_2 p122 q122;(try rw [← Nbq17.out] at hx122_0);cases e122;replace hx122_0:=(HB.out.cell (World.block_lt_of_cell? w _ hx122_0)).trans hx122_0;replace p122:=eq_true p122;replace q122:=eq_true q122;go_wp2;go_roundg k2
               case measure=>have:=HJ4.out;have:=HK2.out;omega
               case rel=>exact ⟨(x5_2 ++ (⟨#[45]⟩ : ByteArray)),(wrap64 (x21_2 + 1)),(by first|rfl|(simp;done)|(simp [*];done)),(by first|rfl|(simp;done)|(simp [*];done)),H',⟨by have:=HJ4.out;have:=HK2.out;omega⟩,⟨by (with_reducible repeat (first|refine zH ?_ _|refine zI ?_|refine zG ?_ _));exact BK119.out⟩,⟨by repeat (first|(with_reducible first|exact HB.out|apply zA|apply zB|apply zC|refine zF ?_ GE119.out)|exact HB.out)⟩⟩
              ·rw [if_neg c22] at H;exact absurd H (by simp)
            ·rw [if_neg c16] at H;exact absurd H (by simp)
           ·rw [if_neg c15] at H;exact absurd H (by simp)
          ·rw [if_neg c14] at H;have c14b0 : decide (x21_2 < ((rd_L1 l0_3 a1).length : Int)) = false:=decide_eq_false c14;clear c14;by_cases c23 : 0 ≤ a1
           ·rw [if_pos c23] at H;have c23b0 : decide (0 ≤ a1) = true:=decide_eq_true c23;clear c23;by_cases c24 : a1 < (l0_0.length : Int)
            ·rw [if_pos c24] at H;have c24b0 : decide (a1 < (l0_0.length : Int)) = true:=decide_eq_true c24;clear c24;by_cases c25 : (rd l0_0 a1) ≥ 0
             ·rw [if_pos c25] at H;have c25b0 : decide (0 ≤ (rd l0_0 a1)) = true:=decide_eq_true c25;clear c25;replace H:=Option.bind_eq_some_iff.mp H;obtain ⟨t126,A260,H⟩:=H;replace H : (if 6 + t126.size ≤ 9223372036854775807 then (if x5_2.size + ((⟨#[32,110,101,120,116,32]⟩ : ByteArray) ++ t126).size ≤ 9223372036854775807 then (if (x5_2 ++ ((⟨#[32,110,101,120,116,32]⟩ : ByteArray) ++ t126)).size + 5 ≤ 9223372036854775807 then (if a1 < (l0_1.length : Int) then ((spec_l4decimal.f k2 (rd l0_1 a1)).bind fun t128=>(if ((x5_2 ++ ((⟨#[32,110,101,120,116,32]⟩ : ByteArray) ++ t126)) ++ (⟨#[32,102,97,114,32]⟩ : ByteArray)).size + t128.size ≤ 9223372036854775807 then (some (((x5_2 ++ ((⟨#[32,110,101,120,116,32]⟩ : ByteArray) ++ t126)) ++ (⟨#[32,102,97,114,32]⟩ : ByteArray)) ++ t128)) else (none))) else (none)) else (none)) else (none)) else (none)) = some r:=H
              have A26:=zm A260;clear A260;by_cases c27 : 6 + t126.size ≤ 9223372036854775807
              ·rw [if_pos c27] at H;have c27b0:=eq_true c27;have c27b1 : decide (6 + t126.size ≤ 9223372036854775807) = true:=decide_eq_true c27;try have c27b2 : (9223372036854775807 < 6 + t126.size) = False:=eq_false (Nat.not_lt.2 c27)
               by_cases c28 : x5_2.size + ((⟨#[32,110,101,120,116,32]⟩ : ByteArray) ++ t126).size ≤ 9223372036854775807
               ·rw [if_pos c28] at H;have c28b0:=eq_true c28;have c28b1 : decide (x5_2.size + ((⟨#[32,110,101,120,116,32]⟩ : ByteArray) ++ t126).size ≤ 9223372036854775807) = true:=decide_eq_true c28;try have c28b2 : (9223372036854775807 < x5_2.size + ((⟨#[32,110,101,120,116,32]⟩ : ByteArray) ++ t126).size) = False:=eq_false (Nat.not_lt.2 c28)
                have c28b9 : (9223372036854775807 < x5_2.size + (6 + t126.size)) = False:=eq_false (by have h_:=c28;simp only [ByteArray.size_append,show (⟨#[32,110,101,120,116,32]⟩ : ByteArray).size = 6 from rfl] at h_;omega)
                by_cases c29 : (x5_2 ++ ((⟨#[32,110,101,120,116,32]⟩ : ByteArray) ++ t126)).size + 5 ≤ 9223372036854775807
                ·rw [if_pos c29] at H;have c29b0:=eq_true c29;have c29b1 : decide ((x5_2 ++ ((⟨#[32,110,101,120,116,32]⟩ : ByteArray) ++ t126)).size + 5 ≤ 9223372036854775807) = true:=decide_eq_true c29;try have c29b2 : (9223372036854775807 < (x5_2 ++ ((⟨#[32,110,101,120,116,32]⟩ : ByteArray) ++ t126)).size + 5) = False:=eq_false (Nat.not_lt.2 c29)
                 have c29b9 : (9223372036854775807 < x5_2.size + (6 + t126.size) + 5) = False:=eq_false (by have h_:=c29;simp only [ByteArray.size_append,show (⟨#[32,110,101,120,116,32]⟩ : ByteArray).size = 6 from rfl] at h_;omega)
                 by_cases c30 : a1 < (l0_1.length : Int)
                 ·rw [if_pos c30] at H;have c30b0 : decide (a1 < (l0_1.length : Int)) = true:=decide_eq_true c30;clear c30;replace H:=Option.bind_eq_some_iff.mp H;obtain ⟨t128,A310,H⟩:=H;replace H : (if ((x5_2 ++ ((⟨#[32,110,101,120,116,32]⟩ : ByteArray) ++ t126)) ++ (⟨#[32,102,97,114,32]⟩ : ByteArray)).size + t128.size ≤ 9223372036854775807 then (some (((x5_2 ++ ((⟨#[32,110,101,120,116,32]⟩ : ByteArray) ++ t126)) ++ (⟨#[32,102,97,114,32]⟩ : ByteArray)) ++ t128)) else (none)) = some r:=H;have A31:=zm A310;clear A310;by_cases c32 : ((x5_2 ++ ((⟨#[32,110,101,120,116,32]⟩ : ByteArray) ++ t126)) ++ (⟨#[32,102,97,114,32]⟩ : ByteArray)).size + t128.size ≤ 9223372036854775807
                  ·rw [if_pos c32] at H;have c32b0:=eq_true c32;have c32b1 : decide (((x5_2 ++ ((⟨#[32,110,101,120,116,32]⟩ : ByteArray) ++ t126)) ++ (⟨#[32,102,97,114,32]⟩ : ByteArray)).size + t128.size ≤ 9223372036854775807) = true:=decide_eq_true c32;try have c32b2 : (9223372036854775807 < ((x5_2 ++ ((⟨#[32,110,101,120,116,32]⟩ : ByteArray) ++ t126)) ++ (⟨#[32,102,97,114,32]⟩ : ByteArray)).size + t128.size) = False:=eq_false (Nat.not_lt.2 c32)
                   have c32b9 : (9223372036854775807 < x5_2.size + (6 + t126.size) + 5 + t128.size) = False:=eq_false (by have h_:=c32;simp only [ByteArray.size_append,show (⟨#[32,102,97,114,32]⟩ : ByteArray).size = 5 from rfl,show (⟨#[32,110,101,120,116,32]⟩ : ByteArray).size = 6 from rfl] at h_;omega)
                   obtain rfl:=Option.some.inj H;have hcz33_0 : wr.cell? ⟨gb119,0,none⟩ = some (.slice A0_0 l0_0.length c0_0):=(zD BK119.out 0).trans rfl;have hcz33_1 : wr.cell? ⟨gb119,1,none⟩ = some (.slice A0_1 l0_1.length c0_1):=(zD BK119.out 1).trans rfl;have hcz33_2 : wr.cell? ⟨gb119,2,none⟩ = some (.slice (some ad120) l0_2.length c0_2):=(zD BK119.out 2).trans rfl;have hcz33_3 : wr.cell? ⟨gb119,3,none⟩ = some (.slice (some ad121) l0_3.length c0_3):=(zD BK119.out 3).trans rfl;have hfz33_0:=zE BK119.out 0;have hfz33_1:=zE BK119.out 1;have hfz33_2:=zE BK119.out 2;have hfz33_3:=zE BK119.out 3;have p124 : 0 ≤ (a1 : Int):=of_decide_eq_true (by first|(with_reducible assumption)|assumption)
                   have q124 : a1 < (l0_0.length : Int):=of_decide_eq_true (by first|(with_reducible assumption)|assumption)
                   obtain ⟨ad124,e124,hx124_0⟩:=Kd.at_int HR0_0.out a1 p124 q124;cases e124;replace hx124_0:=(HB.out.cell (World.block_lt_of_cell? w _ hx124_0)).trans hx124_0;replace p124:=eq_true p124;replace q124:=eq_true q124;have p125 : 0 ≤ (a1 : Int):=of_decide_eq_true (by first|(with_reducible assumption)|assumption)
                   have q125 : a1 < (l0_0.length : Int):=of_decide_eq_true (by first|(with_reducible assumption)|assumption)
                   obtain ⟨ad125,e125,hx125_0⟩:=Kd.at_int HR0_0.out a1 p125 q125;obtain rfl : ad124 = ad125:=(by injection e125)
                   replace hx125_0:=(HB.out.cell (World.block_lt_of_cell? w _ hx125_0)).trans hx125_0;replace p125:=eq_true p125;replace q125:=eq_true q125;go_wp2_with (first|((with_reducible refine gate_callee (f:=62) rfl ?_);refine goesL_ (some 46) rfl rfl Try.func62 (by kernel_rfl) rfl #[.int .i64 (rd l0_0 a1)] rfl (by (try simp only [List.map_toArray,List.map_cons,List.map_nil]);first|done|rfl|(simp only [List.length_drop,List.length_take];rfl)) ?_;(with_reducible refine (spec_l4decimal.calls k2 (rd l0_0 a1) t126 _ A26.out).mono ?_);rintro e w34 ⟨rfl,hb⟩;refine ⟨_,rfl,?_⟩;have n0_:=zm (zL (g:=gb119) (o:=.cells #[.slice (some ad124) l0_0.length c0_0,.slice A0_1 l0_1.length c0_1,.slice (some ad120) l0_2.length c0_2,.slice (some ad121) l0_3.length c0_3] 30 (0,0)) (by (with_reducible repeat (first|refine zH ?_ _|refine zI ?_|refine zG ?_ _));exact BK119.out) hb);have n1_:=zm (zK (by repeat (first|(with_reducible first|exact HB.out|apply zA|apply zB|apply zC|refine zF ?_ GE119.out)|exact HB.out)) hb);clear BK119;clear HB;have BK119:=n0_;have HB:=n1_;clear n0_ n1_;(try clear hb);(try clear hb2);(try clear hk);(try clear hi);have hcz35_0 : w34.cell? ⟨gb119,0,none⟩ = some (.slice (some ad124) l0_0.length c0_0):=(zD BK119.out 0).trans rfl;have hcz35_1 : w34.cell? ⟨gb119,1,none⟩ = some (.slice A0_1 l0_1.length c0_1):=(zD BK119.out 1).trans rfl;have hcz35_2 : w34.cell? ⟨gb119,2,none⟩ = some (.slice (some ad120) l0_2.length c0_2):=(zD BK119.out 2).trans rfl;have hcz35_3 : w34.cell? ⟨gb119,3,none⟩ = some (.slice (some ad121) l0_3.length c0_3):=(zD BK119.out 3).trans rfl;have hfz35_0:=zE BK119.out 0;have hfz35_1:=zE BK119.out 1;have hfz35_2:=zE BK119.out 2;have hfz35_3:=zE BK119.out 3;have p127 : 0 ≤ (a1 : Int):=of_decide_eq_true (by first|(with_reducible assumption)|assumption);have q127 : a1 < (l0_1.length : Int):=of_decide_eq_true (by first|(with_reducible assumption)|assumption);obtain ⟨ad127,e127,hx127_0⟩:=Kd.at_int HR0_1.out a1 p127 q127;cases e127;replace hx127_0:=(HB.out.cell (World.block_lt_of_cell? w _ hx127_0)).trans hx127_0;replace p127:=eq_true p127;replace q127:=eq_true q127)|((with_reducible refine gate_callee (f:=62) rfl ?_);refine goesL_ (some 58) rfl rfl Try.func62 (by kernel_rfl) rfl #[.int .i64 (rd l0_1 a1)] rfl (by (try simp only [List.map_toArray,List.map_cons,List.map_nil]);first|done|rfl|(simp only [List.length_drop,List.length_take];rfl)) ?_;(with_reducible refine (spec_l4decimal.calls k2 (rd l0_1 a1) t128 _ A31.out).mono ?_);rintro e w36 ⟨rfl,hb⟩;refine ⟨_,rfl,?_⟩;have n0_:=zm (zL (g:=gb119) (o:=.cells #[.slice (some ad124) l0_0.length c0_0,.slice (some ad127) l0_1.length c0_1,.slice (some ad120) l0_2.length c0_2,.slice (some ad121) l0_3.length c0_3] 30 (0,0)) (by (with_reducible repeat (first|refine zH ?_ _|refine zI ?_|refine zG ?_ _));exact BK119.out) hb);have n1_:=zm (zK (by repeat (first|(with_reducible first|exact HB.out|apply zA|apply zB|apply zC|refine zF ?_ GE119.out)|exact HB.out)) hb);clear BK119;clear HB;have BK119:=n0_;have HB:=n1_;clear n0_ n1_;(try clear hb);(try clear hb2);(try clear hk);(try clear hi)))
                   go_ret
                   exact ⟨by first|rfl|(simp [errW_none,errW_some] <;> rfl)|(simp [*,errW_none,errW_some] <;> rfl),by repeat (first|(with_reducible first|exact HB.out|apply zA|apply zB|apply zC|refine zF ?_ GE119.out)|exact HB.out)⟩
                  ·rw [if_neg c32] at H;exact absurd H (by simp)
                 ·rw [if_neg c30] at H;exact absurd H (by simp)
                ·rw [if_neg c29] at H;exact absurd H (by simp)
               ·rw [if_neg c28] at H;exact absurd H (by simp)
              ·rw [if_neg c27] at H;exact absurd H (by simp)
             ·rw [if_neg c25] at H;have c25b0 : decide (0 ≤ (rd l0_0 a1)) = false:=decide_eq_false c25;clear c25;by_cases c37 : x5_2.size + 4 ≤ 9223372036854775807
              ·rw [if_pos c37] at H;have c37b0:=eq_true c37;have c37b1 : decide (x5_2.size + 4 ≤ 9223372036854775807) = true:=decide_eq_true c37;try have c37b2 : (9223372036854775807 < x5_2.size + 4) = False:=eq_false (Nat.not_lt.2 c37)
               by_cases c38 : (x5_2 ++ (⟨#[32,101,110,100]⟩ : ByteArray)).size + 5 ≤ 9223372036854775807
               ·rw [if_pos c38] at H;have c38b0:=eq_true c38;have c38b1 : decide ((x5_2 ++ (⟨#[32,101,110,100]⟩ : ByteArray)).size + 5 ≤ 9223372036854775807) = true:=decide_eq_true c38;try have c38b2 : (9223372036854775807 < (x5_2 ++ (⟨#[32,101,110,100]⟩ : ByteArray)).size + 5) = False:=eq_false (Nat.not_lt.2 c38)
                have c38b9 : (9223372036854775807 < x5_2.size + 4 + 5) = False:=eq_false (by have h_:=c38;simp only [ByteArray.size_append,show (⟨#[32,101,110,100]⟩ : ByteArray).size = 4 from rfl] at h_;omega)
                by_cases c39 : a1 < (l0_1.length : Int)
                ·rw [if_pos c39] at H;have c39b0 : decide (a1 < (l0_1.length : Int)) = true:=decide_eq_true c39;clear c39;replace H:=Option.bind_eq_some_iff.mp H;obtain ⟨t130,A400,H⟩:=H;replace H : (if ((x5_2 ++ (⟨#[32,101,110,100]⟩ : ByteArray)) ++ (⟨#[32,102,97,114,32]⟩ : ByteArray)).size + t130.size ≤ 9223372036854775807 then (some (((x5_2 ++ (⟨#[32,101,110,100]⟩ : ByteArray)) ++ (⟨#[32,102,97,114,32]⟩ : ByteArray)) ++ t130)) else (none)) = some r:=H;have A40:=zm A400;clear A400;by_cases c41 : ((x5_2 ++ (⟨#[32,101,110,100]⟩ : ByteArray)) ++ (⟨#[32,102,97,114,32]⟩ : ByteArray)).size + t130.size ≤ 9223372036854775807
                 ·rw [if_pos c41] at H;have c41b0:=eq_true c41;have c41b1 : decide (((x5_2 ++ (⟨#[32,101,110,100]⟩ : ByteArray)) ++ (⟨#[32,102,97,114,32]⟩ : ByteArray)).size + t130.size ≤ 9223372036854775807) = true:=decide_eq_true c41;try have c41b2 : (9223372036854775807 < ((x5_2 ++ (⟨#[32,101,110,100]⟩ : ByteArray)) ++ (⟨#[32,102,97,114,32]⟩ : ByteArray)).size + t130.size) = False:=eq_false (Nat.not_lt.2 c41)
                  have c41b9 : (9223372036854775807 < x5_2.size + 4 + 5 + t130.size) = False:=eq_false (by have h_:=c41;simp only [ByteArray.size_append,show (⟨#[32,101,110,100]⟩ : ByteArray).size = 4 from rfl,show (⟨#[32,102,97,114,32]⟩ : ByteArray).size = 5 from rfl] at h_;omega)
                  obtain rfl:=Option.some.inj H;have hcz42_0 : wr.cell? ⟨gb119,0,none⟩ = some (.slice A0_0 l0_0.length c0_0):=(zD BK119.out 0).trans rfl;have hcz42_1 : wr.cell? ⟨gb119,1,none⟩ = some (.slice A0_1 l0_1.length c0_1):=(zD BK119.out 1).trans rfl;have hcz42_2 : wr.cell? ⟨gb119,2,none⟩ = some (.slice (some ad120) l0_2.length c0_2):=(zD BK119.out 2).trans rfl;have hcz42_3 : wr.cell? ⟨gb119,3,none⟩ = some (.slice (some ad121) l0_3.length c0_3):=(zD BK119.out 3).trans rfl;have hfz42_0:=zE BK119.out 0;have hfz42_1:=zE BK119.out 1;have hfz42_2:=zE BK119.out 2;have hfz42_3:=zE BK119.out 3;have p124 : 0 ≤ (a1 : Int):=of_decide_eq_true (by first|(with_reducible assumption)|assumption)
                  have q124 : a1 < (l0_0.length : Int):=of_decide_eq_true (by first|(with_reducible assumption)|assumption)
                  obtain ⟨ad124,e124,hx124_0⟩:=Kd.at_int HR0_0.out a1 p124 q124;cases e124;replace hx124_0:=(HB.out.cell (World.block_lt_of_cell? w _ hx124_0)).trans hx124_0;replace p124:=eq_true p124;replace q124:=eq_true q124;have p129 : 0 ≤ (a1 : Int):=of_decide_eq_true (by first|(with_reducible assumption)|assumption)
                  have q129 : a1 < (l0_1.length : Int):=of_decide_eq_true (by first|(with_reducible assumption)|assumption)
                  obtain ⟨ad129,e129,hx129_0⟩:=Kd.at_int HR0_1.out a1 p129 q129;cases e129;replace hx129_0:=(HB.out.cell (World.block_lt_of_cell? w _ hx129_0)).trans hx129_0;replace p129:=eq_true p129;replace q129:=eq_true q129;go_wp2_with (first|((with_reducible refine gate_callee (f:=62) rfl ?_);refine goesL_ (some 58) rfl rfl Try.func62 (by kernel_rfl) rfl #[.int .i64 (rd l0_1 a1)] rfl (by (try simp only [List.map_toArray,List.map_cons,List.map_nil]);first|done|rfl|(simp only [List.length_drop,List.length_take];rfl)) ?_;(with_reducible refine (spec_l4decimal.calls k2 (rd l0_1 a1) t130 _ A40.out).mono ?_);rintro e w43 ⟨rfl,hb⟩;refine ⟨_,rfl,?_⟩;have n0_:=zm (zL (g:=gb119) (o:=.cells #[.slice (some ad124) l0_0.length c0_0,.slice (some ad129) l0_1.length c0_1,.slice (some ad120) l0_2.length c0_2,.slice (some ad121) l0_3.length c0_3] 30 (0,0)) (by (with_reducible repeat (first|refine zH ?_ _|refine zI ?_|refine zG ?_ _));exact BK119.out) hb);have n1_:=zm (zK (by repeat (first|(with_reducible first|exact HB.out|apply zA|apply zB|apply zC|refine zF ?_ GE119.out)|exact HB.out)) hb);clear BK119;clear HB;have BK119:=n0_;have HB:=n1_;clear n0_ n1_;(try clear hb);(try clear hb2);(try clear hk);(try clear hi)))
                  go_ret
                  exact ⟨by first|rfl|(simp [errW_none,errW_some] <;> rfl)|(simp [*,errW_none,errW_some] <;> rfl),by repeat (first|(with_reducible first|exact HB.out|apply zA|apply zB|apply zC|refine zF ?_ GE119.out)|exact HB.out)⟩
                 ·rw [if_neg c41] at H;exact absurd H (by simp)
                ·rw [if_neg c39] at H;exact absurd H (by simp)
               ·rw [if_neg c38] at H;exact absurd H (by simp)
              ·rw [if_neg c37] at H;exact absurd H (by simp)
            ·rw [if_neg c24] at H;exact absurd H (by simp)
           ·rw [if_neg c23] at H;exact absurd H (by simp)
       ·rw [if_neg c12] at H;exact absurd H (by simp)
      ·rw [if_neg c11] at H;exact absurd H (by simp)
     ·rw [if_neg c10] at H;exact absurd H (by simp)
  ·rw [if_neg c4] at H;exact absurd H (by simp)
 ·rw [if_neg c3] at H;exact absurd H (by simp)

end Go.Proofs.Ytpdcghclcgbcfab.X
