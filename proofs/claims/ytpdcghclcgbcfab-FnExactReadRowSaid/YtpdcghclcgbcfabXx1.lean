-- written by a program of this session (after the kit's print), not trusted: Lean checks it
import Derived.Test.YtpdcghclcgbcfabXx0
namespace Go.Proofs.Ytpdcghclcgbcfab.X
open Go.RowKit Go.Proofs.YtpdcghclcgbcfabW.PrintWords Go.Proofs.YtpdcghclcgbcfabW.PrintLast Go.Proofs.YtpdcghclcgbcfabW.PrintMore
open Go.Proofs.YtpdcghclcgbcfabW.PrintWords renaming below_alloc → zA, below_drew1 → zC, below_set → zF, below_size → zJ, below_step → zK, blk_alloc → zG, blk_cell → zD, blk_drew → zI, blk_drewN → zH, blk_frozen → zE, box_event → zN, gate_dst → zM, pw_below_drewN → zB
open Go.Proofs.YtpdcghclcgbcfabW.PrintWords.Aside0 renaming mk → zm
attribute [local go_sem] max2_int min2_int max_two min_two max_three min_three max_four min_four   -- for this text's walks alone
set_option linter.unusedVariables false
set_option linter.unusedSimpArgs false

/-! ### spec_l1in: function 26 -/
def spec_l1in.f (a0 : Int) (a1 : Int) (a2 : Int) : Option (Bool):=if a0 ≥ a1 then (some (decide (a0 ≤ a2))) else (some false)
set_option maxHeartbeats 8000000 in
set_option maxRecDepth 100000 in
theorem spec_l1in.calls (a0 : Int) (a1 : Int) (a2 : Int) (r : Bool) (w : World) (h : spec_l1in.f a0 a1 a2 = some r) :
  Calls Try.prog 26 #[.int .i64 a0,.int .i64 a1,.int .i64 a2] w fun e w'=>e = .returned (.bool r)∧Drawn0 w w':=by
 have H : (if a0 ≥ a1 then (some (decide (a0 ≤ a2))) else (some false)) = some r:=h;clear h;by_cases c4 : a0 ≥ a1
 ·rw [if_pos c4] at H;have c4b0 : decide (a1 ≤ a0) = true:=decide_eq_true c4;clear c4;obtain rfl:=Option.some.inj H;go_enter Try.func26,Try.ntmps26
  go_wp2;go_ret
  exact ⟨by first|rfl|(simp;done)|(simp [*];done),by repeat (first|exact Drawn0.refl _|apply Drawn0.step)⟩
 ·rw [if_neg c4] at H;have c4b0 : decide (a1 ≤ a0) = false:=decide_eq_false c4;clear c4;obtain rfl:=Option.some.inj H;go_enter Try.func26,Try.ntmps26
  go_wp2;go_ret
  exact ⟨by first|rfl|(simp;done)|(simp [*];done),by repeat (first|exact Drawn0.refl _|apply Drawn0.step)⟩

/-! ### spec_RowOk: function 25 -/
mutual
def spec_RowOk.j0 : Nat→Int→Bool→List Int→List Int→List Bool→List (List Bool)→Option (Int)
 | 0,_,_,_,_,_,_=>none
 | k + 1,x3,x33,x102000,x102001,x102002,x102003=>if x33 = true then (some 1) else (spec_RowOk.l0 k x3 x102000 (x102000.length : Int) 0 x102000 x102001 x102002 x102003)
def spec_RowOk.l0 : Nat→Int→List Int→Int→Int→List Int→List Int→List Bool→List (List Bool)→Option (Int)
 | 0,_,_,_,_,_,_,_,_=>none
 | k + 1,x3,x35,x36,x37,x102000,x102001,x102002,x102003=>if x37 < x36 then (if 0 ≤ x37 then (if x37 < (x35.length : Int) then ((spec_l1in.f (rd x35 x37) (-1) (wrap64 (x3 - 1))).bind fun t103=>(if t103 = true then (if x37 < (x102001.length : Int) then ((spec_l1in.f (rd x102001 x37) 0 1000000).bind fun t105=>(if t105 = true then (spec_RowOk.l0 k x3 x35 x36 (wrap64 (x37 + 1)) x102000 x102001 x102002 x102003) else (some 2))) else (none)) else (some 2))) else (none)) else (none)) else (spec_RowOk.l1 k x102003 (x102003.length : Int) 0)
def spec_RowOk.l1 : Nat→List (List Bool)→Int→Int→Option (Int)
 | 0,_,_,_=>none
 | k + 1,x58,x59,x60=>if x60 < x59 then (if 0 ≤ x60 then (if x60 < (x58.length : Int) then (if ((rd_L1 x58 x60).length : Int) = 4 then (spec_RowOk.l1 k x58 x59 (wrap64 (x60 + 1))) else (some 3)) else (none)) else (none)) else (some 0)
end
def spec_RowOk.f (k : Nat) (l0_0 : List Int) (l0_1 : List Int) (l0_2 : List Bool) (l0_3 : List (List Bool)) : Option (Int):=if (l0_0.length : Int) > 60 then (spec_RowOk.j0 k (l0_0.length : Int) true l0_0 l0_1 l0_2 l0_3) else (if (l0_1.length : Int) = (l0_0.length : Int) then (if (l0_2.length : Int) = (l0_0.length : Int) then (spec_RowOk.j0 k (l0_0.length : Int) ((l0_3.length : Int) != (l0_0.length : Int)) l0_0 l0_1 l0_2 l0_3) else (spec_RowOk.j0 k (l0_0.length : Int) true l0_0 l0_1 l0_2 l0_3)) else (spec_RowOk.j0 k (l0_0.length : Int) true l0_0 l0_1 l0_2 l0_3))
theorem spec_RowOk.mono_l : ∀ k,(∀ y0 y1 y2 y3 y4 y5,LeO (spec_RowOk.j0 k y0 y1 y2 y3 y4 y5) (spec_RowOk.j0 (k + 1) y0 y1 y2 y3 y4 y5))∧(∀ y0 y1 y2 y3 y4 y5 y6 y7,LeO (spec_RowOk.l0 k y0 y1 y2 y3 y4 y5 y6 y7) (spec_RowOk.l0 (k + 1) y0 y1 y2 y3 y4 y5 y6 y7))∧(∀ y0 y1 y2,LeO (spec_RowOk.l1 k y0 y1 y2) (spec_RowOk.l1 (k + 1) y0 y1 y2))
 | 0=>⟨fun _ _ _ _ _ _ r h=>by simp [spec_RowOk.j0] at h,fun _ _ _ _ _ _ _ _ r h=>by simp [spec_RowOk.l0] at h,fun _ _ _ r h=>by simp [spec_RowOk.l1] at h⟩
 | k + 1=>by
  obtain ⟨ih0,ih1,ih2⟩:=spec_RowOk.mono_l k;refine ⟨?_,?_,?_⟩
  ·intro y0 y1 y2 y3 y4 y5
   unfold spec_RowOk.j0
   repeat' first
   | (with_reducible exact ih0 _ _ _ _ _ _)
   | (with_reducible exact ih1 _ _ _ _ _ _ _ _)
   | (with_reducible exact ih2 _ _ _)
   | (with_reducible exact LeO.refl _)
   | (with_reducible exact LeO.none _)
   | (with_reducible refine LeO.ite ?_ ?_)
   | (with_reducible refine LeO.bind ?_ (fun _=>?_))
   | exact ih0 _ _ _ _ _ _
   | exact ih1 _ _ _ _ _ _ _ _
   | exact ih2 _ _ _
   | exact LeO.none _
   | refine LeO.ite ?_ ?_
   | refine LeO.bind ?_ (fun _=>?_)
  ·intro y0 y1 y2 y3 y4 y5 y6 y7
   unfold spec_RowOk.l0
   repeat' first
   | (with_reducible exact ih0 _ _ _ _ _ _)
   | (with_reducible exact ih1 _ _ _ _ _ _ _ _)
   | (with_reducible exact ih2 _ _ _)
   | (with_reducible exact LeO.refl _)
   | (with_reducible exact LeO.none _)
   | (with_reducible refine LeO.ite ?_ ?_)
   | (with_reducible refine LeO.bind ?_ (fun _=>?_))
   | exact ih0 _ _ _ _ _ _
   | exact ih1 _ _ _ _ _ _ _ _
   | exact ih2 _ _ _
   | exact LeO.none _
   | refine LeO.ite ?_ ?_
   | refine LeO.bind ?_ (fun _=>?_)
  ·intro y0 y1 y2
   unfold spec_RowOk.l1
   repeat' first
   | (with_reducible exact ih0 _ _ _ _ _ _)
   | (with_reducible exact ih1 _ _ _ _ _ _ _ _)
   | (with_reducible exact ih2 _ _ _)
   | (with_reducible exact LeO.refl _)
   | (with_reducible exact LeO.none _)
   | (with_reducible refine LeO.ite ?_ ?_)
   | (with_reducible refine LeO.bind ?_ (fun _=>?_))
   | exact ih0 _ _ _ _ _ _
   | exact ih1 _ _ _ _ _ _ _ _
   | exact ih2 _ _ _
   | exact LeO.none _
   | refine LeO.ite ?_ ?_
   | refine LeO.bind ?_ (fun _=>?_)
theorem spec_RowOk.mono : ∀ a0 a1 a2 a3 k,LeO (spec_RowOk.f k a0 a1 a2 a3) (spec_RowOk.f (k + 1) a0 a1 a2 a3):=by
 intro a0 a1 a2 a3 k
 obtain ⟨ih0,ih1,ih2⟩:=spec_RowOk.mono_l k;unfold spec_RowOk.f
 repeat' first
   | (with_reducible exact ih0 _ _ _ _ _ _)
   | (with_reducible exact ih1 _ _ _ _ _ _ _ _)
   | (with_reducible exact ih2 _ _ _)
   | (with_reducible exact LeO.refl _)
   | (with_reducible exact LeO.none _)
   | (with_reducible refine LeO.ite ?_ ?_)
   | (with_reducible refine LeO.bind ?_ (fun _=>?_))
   | exact ih0 _ _ _ _ _ _
   | exact ih1 _ _ _ _ _ _ _ _
   | exact ih2 _ _ _
   | exact LeO.none _
   | refine LeO.ite ?_ ?_
   | refine LeO.bind ?_ (fun _=>?_)
set_option maxHeartbeats 8000000 in
set_option maxRecDepth 100000 in
theorem spec_RowOk.calls (k : Nat) (A0_0 : Option Addr) (c0_0 : Nat) (l0_0 : List Int) (A0_1 : Option Addr) (c0_1 : Nat) (l0_1 : List Int) (A0_2 : Option Addr) (c0_2 : Nat) (l0_2 : List Bool) (A0_3 : Option Addr) (c0_3 : Nat) (l0_3 : List (List Bool)) (r : Int) (w : World) (hr0_0 : Kd.C (Kd.int .i64) w A0_0 l0_0.length l0_0) (hc0_0 : l0_0.length ≤ c0_0) (hr0_1 : Kd.C (Kd.int .i64) w A0_1 l0_1.length l0_1) (hc0_1 : l0_1.length ≤ c0_1) (hr0_2 : Kd.C Kd.bool w A0_2 l0_2.length l0_2) (hc0_2 : l0_2.length ≤ c0_2) (hr0_3 : Kd.C (Kd.slice 4 Kd.bool) w A0_3 l0_3.length l0_3) (hc0_3 : l0_3.length ≤ c0_3) (h : spec_RowOk.f k l0_0 l0_1 l0_2 l0_3 = some r) :
  Calls Try.prog 25 #[.agg #[.slice A0_0 l0_0.length c0_0,.slice A0_1 l0_1.length c0_1,.slice A0_2 l0_2.length c0_2,.slice A0_3 l0_3.length c0_3]] w fun e w'=>e = .returned (.int .i64 r)∧Below w.heap.size w w':=by
 have hu30:=Try.underlying30;have HR0_0:=zm hr0_0;have HC0_0:=zm hc0_0;clear hr0_0 hc0_0;have HR0_1:=zm hr0_1;have HC0_1:=zm hc0_1;clear hr0_1 hc0_1;have HR0_2:=zm hr0_2;have HC0_2:=zm hc0_2;clear hr0_2 hc0_2;have HR0_3:=zm hr0_3;have HC0_3:=zm hc0_3;clear hr0_3 hc0_3;have HB:=zm (Below.refl w.heap.size w);have H : (if (l0_0.length : Int) > 60 then (spec_RowOk.j0 k (l0_0.length : Int) true l0_0 l0_1 l0_2 l0_3) else (if (l0_1.length : Int) = (l0_0.length : Int) then (if (l0_2.length : Int) = (l0_0.length : Int) then (spec_RowOk.j0 k (l0_0.length : Int) ((l0_3.length : Int) != (l0_0.length : Int)) l0_0 l0_1 l0_2 l0_3) else (spec_RowOk.j0 k (l0_0.length : Int) true l0_0 l0_1 l0_2 l0_3)) else (spec_RowOk.j0 k (l0_0.length : Int) true l0_0 l0_1 l0_2 l0_3))) = some r:=h;clear h;have HC2:=zm H;clear H;go_enter Try.func25,Try.ntmps25
 go_upto_region 2 with (first|((with_reducible refine zM (N:=1) rfl ?_);(try (refine gate_guard (by rfl) ?_;dsimp only));refine zN ?hg (N:=1) ?hd (cs:=#[.slice A0_0 l0_0.length c0_0,.slice A0_1 l0_1.length c0_1,.slice A0_2 l0_2.length c0_2,.slice A0_3 l0_3.length c0_3]) (t:=30) ?hr ?_;(case hd=>rfl);(case hg=>rfl);(case hr=>first|(go_simp;done)|(go_simp;rfl));intro gb101 hg w3 hbox hb;have n0_:=zm (zK (by repeat (first|(with_reducible first|exact HB.out|apply zA|apply zB|apply zC)|exact HB.out)) hb);have n1_:=zm (hbox);have n2_:=zm ((by rw [hg];exact (zJ (by repeat (first|(with_reducible first|exact HB.out|apply zA|apply zB|apply zC)|exact HB.out))) : w.heap.size ≤ gb101));have n3_:=zm ((by rw [hg];exact (zJ (by repeat (first|(with_reducible first|exact HB.out|apply zA|apply zB|apply zC)|exact HB.out))) : w.heap.size ≤ gb101));clear HB;have HB:=n0_;have BK101:=n1_;have GW101:=n2_;have GE101:=n3_;clear n0_ n1_ n2_ n3_;clear hb hbox hg;have hcz4_0 : w3.cell? ⟨gb101,0,none⟩ = some (.slice A0_0 l0_0.length c0_0):=(zD BK101.out 0).trans rfl;have hcz4_1 : w3.cell? ⟨gb101,1,none⟩ = some (.slice A0_1 l0_1.length c0_1):=(zD BK101.out 1).trans rfl;have hcz4_2 : w3.cell? ⟨gb101,2,none⟩ = some (.slice A0_2 l0_2.length c0_2):=(zD BK101.out 2).trans rfl;have hcz4_3 : w3.cell? ⟨gb101,3,none⟩ = some (.slice A0_3 l0_3.length c0_3):=(zD BK101.out 3).trans rfl;have hfz4_0:=zE BK101.out 0;have hfz4_1:=zE BK101.out 1;have hfz4_2:=zE BK101.out 2;have hfz4_3:=zE BK101.out 3))
 (try simp only [Act.put,List.setIfInBounds_toArray,List.set_cons_zero,List.set_cons_succ]);go_cut [33] (fun v33 wc=>∃ (kq : Nat) (x33_1 : Bool),v33 = .bool x33_1∧Aside0 (spec_RowOk.j0 kq (l0_0.length : Int) x33_1 l0_0 l0_1 l0_2 l0_3 = some r)∧Aside0 (kq ≤ k)∧Aside0 (wc.heap[gb101]? = some (.cells #[(.slice A0_0 l0_0.length c0_0),(.slice A0_1 l0_1.length c0_1),(.slice A0_2 l0_2.length c0_2),(.slice A0_3 l0_3.length c0_3)] 30 (0,0)))∧Aside0 (Below w.heap.size w wc))
 case first =>
  have H:=HC2.out;clear HC2;by_cases c5 : (l0_0.length : Int) > 60
  ·rw [if_pos c5] at H;have c5b0 : decide (60 < (l0_0.length : Int)) = true:=decide_eq_true c5;have c5b1 : decide (60 < l0_0.length) = true:=decide_eq_true (by omega)
   clear c5;(first|rw [c5b0]|(simp only [i64_w,i32_w];rw [c5b0])|skip)
   have H':=zm H;clear H;go_wp2;go_meet
   case rel=>exact ⟨_,(true),(by first|rfl|(simp;done)|(simp [*];done)),H',⟨by first|omega|exact Nat.le_refl _⟩,⟨by (with_reducible repeat (first|refine zH ?_ _|refine zI ?_|refine zG ?_ _));exact BK101.out⟩,⟨by repeat (first|(with_reducible first|exact HB.out|apply zA|apply zB|apply zC|refine zF ?_ GE101.out)|exact HB.out)⟩⟩
  ·rw [if_neg c5] at H;have c5b0 : decide (60 < (l0_0.length : Int)) = false:=decide_eq_false c5;have c5b1 : decide (60 < l0_0.length) = false:=decide_eq_false (by omega)
   clear c5;(first|rw [c5b0]|(simp only [i64_w,i32_w];rw [c5b0])|skip)
   by_cases c6 : (l0_1.length : Int) = (l0_0.length : Int)
   ·rw [if_pos c6] at H;have c6b0 : ((l0_1.length : Int) == (l0_0.length : Int)) = true:=beq_iff_eq.mpr c6;have c6b1 : ((l0_1.length : Int) != (l0_0.length : Int)) = false:=bne_eq_false_iff_eq.mpr c6;have c6b2 : (l0_1.length == l0_0.length) = true:=by first|simpa using c6|(simp at c6 ⊢;omega)
    clear c6;by_cases c7 : (l0_2.length : Int) = (l0_0.length : Int)
    ·rw [if_pos c7] at H;have c7b0 : ((l0_2.length : Int) == (l0_0.length : Int)) = true:=beq_iff_eq.mpr c7;have c7b1 : ((l0_2.length : Int) != (l0_0.length : Int)) = false:=bne_eq_false_iff_eq.mpr c7;have c7b2 : (l0_2.length == l0_0.length) = true:=by first|simpa using c7|(simp at c7 ⊢;omega)
     clear c7;have H':=zm H;clear H;have hcz8_0 : w3.cell? ⟨gb101,0,none⟩ = some (.slice A0_0 l0_0.length c0_0):=(zD BK101.out 0).trans rfl;have hcz8_1 : w3.cell? ⟨gb101,1,none⟩ = some (.slice A0_1 l0_1.length c0_1):=(zD BK101.out 1).trans rfl;have hcz8_2 : w3.cell? ⟨gb101,2,none⟩ = some (.slice A0_2 l0_2.length c0_2):=(zD BK101.out 2).trans rfl;have hcz8_3 : w3.cell? ⟨gb101,3,none⟩ = some (.slice A0_3 l0_3.length c0_3):=(zD BK101.out 3).trans rfl;have hfz8_0:=zE BK101.out 0;have hfz8_1:=zE BK101.out 1;have hfz8_2:=zE BK101.out 2;have hfz8_3:=zE BK101.out 3;go_wp2;go_meet
     case rel=>exact ⟨_,(((l0_3.length : Int) != (l0_0.length : Int))),(by first|rfl|(simp;done)|(simp [*];done)),H',⟨by first|omega|exact Nat.le_refl _⟩,⟨by (with_reducible repeat (first|refine zH ?_ _|refine zI ?_|refine zG ?_ _));exact BK101.out⟩,⟨by repeat (first|(with_reducible first|exact HB.out|apply zA|apply zB|apply zC|refine zF ?_ GE101.out)|exact HB.out)⟩⟩
    ·rw [if_neg c7] at H;have c7b0 : ((l0_2.length : Int) == (l0_0.length : Int)) = false:=beq_eq_false_iff_ne.mpr c7;have c7b1 : ((l0_2.length : Int) != (l0_0.length : Int)) = true:=bne_iff_ne.mpr c7;have c7b2 : (l0_2.length == l0_0.length) = false:=by first|simpa using c7|(simp at c7 ⊢;omega)
     have H':=zm H;clear H;have hcz9_0 : w3.cell? ⟨gb101,0,none⟩ = some (.slice A0_0 l0_0.length c0_0):=(zD BK101.out 0).trans rfl;have hcz9_1 : w3.cell? ⟨gb101,1,none⟩ = some (.slice A0_1 l0_1.length c0_1):=(zD BK101.out 1).trans rfl;have hcz9_2 : w3.cell? ⟨gb101,2,none⟩ = some (.slice A0_2 l0_2.length c0_2):=(zD BK101.out 2).trans rfl;have hcz9_3 : w3.cell? ⟨gb101,3,none⟩ = some (.slice A0_3 l0_3.length c0_3):=(zD BK101.out 3).trans rfl;have hfz9_0:=zE BK101.out 0;have hfz9_1:=zE BK101.out 1;have hfz9_2:=zE BK101.out 2;have hfz9_3:=zE BK101.out 3;go_wp2;go_meet
     case rel=>exact ⟨_,(true),(by first|rfl|(simp;done)|(simp [*];done)),H',⟨by first|omega|exact Nat.le_refl _⟩,⟨by (with_reducible repeat (first|refine zH ?_ _|refine zI ?_|refine zG ?_ _));exact BK101.out⟩,⟨by repeat (first|(with_reducible first|exact HB.out|apply zA|apply zB|apply zC|refine zF ?_ GE101.out)|exact HB.out)⟩⟩
   ·rw [if_neg c6] at H;have c6b0 : ((l0_1.length : Int) == (l0_0.length : Int)) = false:=beq_eq_false_iff_ne.mpr c6;have c6b1 : ((l0_1.length : Int) != (l0_0.length : Int)) = true:=bne_iff_ne.mpr c6;have c6b2 : (l0_1.length == l0_0.length) = false:=by first|simpa using c6|(simp at c6 ⊢;omega)
    have H':=zm H;clear H;have hcz10_0 : w3.cell? ⟨gb101,0,none⟩ = some (.slice A0_0 l0_0.length c0_0):=(zD BK101.out 0).trans rfl;have hcz10_1 : w3.cell? ⟨gb101,1,none⟩ = some (.slice A0_1 l0_1.length c0_1):=(zD BK101.out 1).trans rfl;have hcz10_2 : w3.cell? ⟨gb101,2,none⟩ = some (.slice A0_2 l0_2.length c0_2):=(zD BK101.out 2).trans rfl;have hcz10_3 : w3.cell? ⟨gb101,3,none⟩ = some (.slice A0_3 l0_3.length c0_3):=(zD BK101.out 3).trans rfl;have hfz10_0:=zE BK101.out 0;have hfz10_1:=zE BK101.out 1;have hfz10_2:=zE BK101.out 2;have hfz10_3:=zE BK101.out 3;go_wp2;go_meet
    case rel=>exact ⟨_,(true),(by first|rfl|(simp;done)|(simp [*];done)),H',⟨by first|omega|exact Nat.le_refl _⟩,⟨by (with_reducible repeat (first|refine zH ?_ _|refine zI ?_|refine zG ?_ _));exact BK101.out⟩,⟨by repeat (first|(with_reducible first|exact HB.out|apply zA|apply zB|apply zC|refine zF ?_ GE101.out)|exact HB.out)⟩⟩
 case rest =>
  clear HC2;(try clear c2);(try clear p2);(try clear c5);(try clear c5b0);(try clear c5b1);(try clear c6);(try clear c6b0);(try clear c6b1);(try clear c6b2);(try clear c7);(try clear c7b0);(try clear c7b1);(try clear c7b2);(try clear hcz10_0);(try clear hcz10_1);(try clear hcz10_2);(try clear hcz10_3);(try clear hcz4_0);(try clear hcz4_1);(try clear hcz4_2);(try clear hcz4_3);(try clear hcz8_0);(try clear hcz8_1);(try clear hcz8_2);(try clear hcz8_3);(try clear hcz9_0);(try clear hcz9_1);(try clear hcz9_2);(try clear hcz9_3);(try clear hfz10_0);(try clear hfz10_1);(try clear hfz10_2);(try clear hfz10_3);(try clear hfz4_0);(try clear hfz4_1);(try clear hfz4_2);(try clear hfz4_3);(try clear hfz8_0);(try clear hfz8_1);(try clear hfz8_2);(try clear hfz8_3);(try clear hfz9_0);(try clear hfz9_1);(try clear hfz9_2);(try clear hfz9_3);obtain ⟨kq,x33_1,rfl,HA,HJ1,BK101,HB⟩:=hcut;cases kq with
  | zero=>exact absurd HA.out (by simp [spec_RowOk.j0])
  | succ kj1 =>
   have H:=HA.out;clear HA;simp only [spec_RowOk.j0] at H
   by_cases c11 : x33_1 = true
   ·subst c11
    have H1 : (some 1) = some r:=by rw [if_pos rfl] at H;exact H
    clear H;have H:=H1;clear H1;obtain rfl:=Option.some.inj H;go_wp2;go_ret
    exact ⟨by first|rfl|(simp [errW_none,errW_some] <;> rfl)|(simp [*,errW_none,errW_some] <;> rfl),by repeat (first|(with_reducible first|exact HB.out|apply zA|apply zB|apply zC|refine zF ?_ GE101.out)|exact HB.out)⟩
   ·replace c11:=Bool.eq_false_iff.mpr c11;subst c11
    have H1 : (spec_RowOk.l0 kj1 (l0_0.length : Int) l0_0 (l0_0.length : Int) 0 l0_0 l0_1 l0_2 l0_3) = some r:=by rw [if_neg (show ¬ (false = true) by decide)] at H;exact H
    clear H;have H:=H1;clear H1;have H':=zm H;clear H;have hcz12_0 : wc.cell? ⟨gb101,0,none⟩ = some (.slice A0_0 l0_0.length c0_0):=(zD BK101.out 0).trans rfl;have hcz12_1 : wc.cell? ⟨gb101,1,none⟩ = some (.slice A0_1 l0_1.length c0_1):=(zD BK101.out 1).trans rfl;have hcz12_2 : wc.cell? ⟨gb101,2,none⟩ = some (.slice A0_2 l0_2.length c0_2):=(zD BK101.out 2).trans rfl;have hcz12_3 : wc.cell? ⟨gb101,3,none⟩ = some (.slice A0_3 l0_3.length c0_3):=(zD BK101.out 3).trans rfl;have hfz12_0:=zE BK101.out 0;have hfz12_1:=zE BK101.out 1;have hfz12_2:=zE BK101.out 2;have hfz12_3:=zE BK101.out 3;go_wp2;go_loopg [37] kj1 (fun kq v37 w'=>∃ (x37_2 : Int),v37 = .int .i64 x37_2∧Aside0 (spec_RowOk.l0 kq (l0_0.length : Int) l0_0 (l0_0.length : Int) x37_2 l0_0 l0_1 l0_2 l0_3 = some r)∧Aside0 (kq ≤ kj1)∧Aside0 (w'.heap[gb101]? = some (.cells #[(.slice A0_0 l0_0.length c0_0),(.slice A0_1 l0_1.length c0_1),(.slice A0_2 l0_2.length c0_2),(.slice A0_3 l0_3.length c0_3)] 30 (0,0)))∧Aside0 (Below w.heap.size w w'))
    case atStart=>exact ⟨(0),(by first|rfl|(simp;done)|(simp [*];done)),H',⟨Nat.le_refl _⟩,⟨by (with_reducible repeat (first|refine zH ?_ _|refine zI ?_|refine zG ?_ _));exact BK101.out⟩,⟨by repeat (first|(with_reducible first|exact HB.out|apply zA|apply zB|apply zC|refine zF ?_ GE101.out)|exact HB.out)⟩⟩
    case round =>
     clear H';(try clear c1);(try clear c2);(try clear p2);(try clear c5);(try clear c5b0);(try clear c5b1);(try clear c6);(try clear c6b0);(try clear c6b1);(try clear c6b2);(try clear c7);(try clear c7b0);(try clear c7b1);(try clear c7b2);(try clear c11);(try clear hcz10_0);(try clear hcz10_1);(try clear hcz10_2);(try clear hcz10_3);(try clear hcz12_0);(try clear hcz12_1);(try clear hcz12_2);(try clear hcz12_3);(try clear hcz4_0);(try clear hcz4_1);(try clear hcz4_2);(try clear hcz4_3);(try clear hcz8_0);(try clear hcz8_1);(try clear hcz8_2);(try clear hcz8_3);(try clear hcz9_0);(try clear hcz9_1);(try clear hcz9_2);(try clear hcz9_3);(try clear hfz10_0);(try clear hfz10_1);(try clear hfz10_2);(try clear hfz10_3);(try clear hfz12_0);(try clear hfz12_1);(try clear hfz12_2);(try clear hfz12_3);(try clear hfz4_0);(try clear hfz4_1);(try clear hfz4_2);(try clear hfz4_3);(try clear hfz8_0);(try clear hfz8_1);(try clear hfz8_2);(try clear hfz8_3);(try clear hfz9_0);(try clear hfz9_1);(try clear hfz9_2);(try clear hfz9_3);(try clear p2);obtain ⟨x37_2,rfl,HA,HK2,BK101,HB⟩:=hrel;cases gk with
     | zero=>exact absurd HA.out (by simp [spec_RowOk.l0])
     | succ k2 =>
      have H:=HA.out;clear HA;simp only [spec_RowOk.l0] at H
      by_cases c13 : x37_2 < (l0_0.length : Int)
      ·rw [if_pos c13] at H;have c13b0 : decide (x37_2 < (l0_0.length : Int)) = true:=decide_eq_true c13;clear c13;by_cases c14 : 0 ≤ x37_2
       ·rw [if_pos c14] at H;have c14b0 : decide (0 ≤ x37_2) = true:=decide_eq_true c14;clear c14;by_cases c15 : x37_2 < (l0_0.length : Int)
        ·rw [if_pos c15] at H;have c15b0 : decide (x37_2 < (l0_0.length : Int)) = true:=decide_eq_true c15;clear c15;replace H:=Option.bind_eq_some_iff.mp H;obtain ⟨t103,A160,H⟩:=H;replace H : (if t103 = true then (if x37_2 < (l0_1.length : Int) then ((spec_l1in.f (rd l0_1 x37_2) 0 1000000).bind fun t105=>(if t105 = true then (spec_RowOk.l0 k2 (l0_0.length : Int) l0_0 (l0_0.length : Int) (wrap64 (x37_2 + 1)) l0_0 l0_1 l0_2 l0_3) else (some 2))) else (none)) else (some 2)) = some r:=H
         have A16:=zm A160;clear A160;by_cases c17 : t103 = true
         ·subst c17
          have H1 : (if x37_2 < (l0_1.length : Int) then ((spec_l1in.f (rd l0_1 x37_2) 0 1000000).bind fun t105=>(if t105 = true then (spec_RowOk.l0 k2 (l0_0.length : Int) l0_0 (l0_0.length : Int) (wrap64 (x37_2 + 1)) l0_0 l0_1 l0_2 l0_3) else (some 2))) else (none)) = some r:=by rw [if_pos rfl] at H;exact H
          clear H;have H:=H1;clear H1;by_cases c18 : x37_2 < (l0_1.length : Int)
          ·rw [if_pos c18] at H;have c18b0 : decide (x37_2 < (l0_1.length : Int)) = true:=decide_eq_true c18;clear c18;replace H:=Option.bind_eq_some_iff.mp H;obtain ⟨t105,A190,H⟩:=H;replace H : (if t105 = true then (spec_RowOk.l0 k2 (l0_0.length : Int) l0_0 (l0_0.length : Int) (wrap64 (x37_2 + 1)) l0_0 l0_1 l0_2 l0_3) else (some 2)) = some r:=H;have A19:=zm A190;clear A190;by_cases c20 : t105 = true
           ·subst c20
            have H1 : (spec_RowOk.l0 k2 (l0_0.length : Int) l0_0 (l0_0.length : Int) (wrap64 (x37_2 + 1)) l0_0 l0_1 l0_2 l0_3) = some r:=by rw [if_pos rfl] at H;exact H
            clear H;have H:=H1;clear H1;have H':=zm H;clear H;have p102 : 0 ≤ (x37_2 : Int):=of_decide_eq_true (by first|(with_reducible assumption)|assumption)
            have q102 : x37_2 < (l0_0.length : Int):=of_decide_eq_true (by first|(with_reducible assumption)|assumption)
            obtain ⟨ad102,e102,hx102_0⟩:=Kd.at_int HR0_0.out x37_2 p102 q102;cases e102;replace hx102_0:=(HB.out.cell (World.block_lt_of_cell? w _ hx102_0)).trans hx102_0;replace p102:=eq_true p102;replace q102:=eq_true q102;go_wp2_with (first|((with_reducible refine gate_callee (f:=26) rfl ?_);refine goesL_ (some 45) rfl rfl Try.func26 (by kernel_rfl) rfl #[.int .i64 (rd l0_0 x37_2),.int .i64 (-1),.int .i64 (wrap64 ((l0_0.length : Int) - 1))] rfl (by (try simp only [List.map_toArray,List.map_cons,List.map_nil]);first|done|rfl|(simp only [List.length_drop,List.length_take];rfl)) ?_;(with_reducible refine (spec_l1in.calls (rd l0_0 x37_2) (-1) (wrap64 ((l0_0.length : Int) - 1)) true _ A16.out).mono ?_);rintro e w' ⟨rfl,⟨nd,rfl⟩⟩;refine ⟨_,rfl,?_⟩;have hcz21_0 : wr.cell? ⟨gb101,0,none⟩ = some (.slice (some ad102) l0_0.length c0_0):=(zD BK101.out 0).trans rfl;have hcz21_1 : wr.cell? ⟨gb101,1,none⟩ = some (.slice A0_1 l0_1.length c0_1):=(zD BK101.out 1).trans rfl;have hcz21_2 : wr.cell? ⟨gb101,2,none⟩ = some (.slice A0_2 l0_2.length c0_2):=(zD BK101.out 2).trans rfl;have hcz21_3 : wr.cell? ⟨gb101,3,none⟩ = some (.slice A0_3 l0_3.length c0_3):=(zD BK101.out 3).trans rfl;have hfz21_0:=zE BK101.out 0;have hfz21_1:=zE BK101.out 1;have hfz21_2:=zE BK101.out 2;have hfz21_3:=zE BK101.out 3;have p104 : 0 ≤ (x37_2 : Int):=of_decide_eq_true (by first|(with_reducible assumption)|assumption);have q104 : x37_2 < (l0_1.length : Int):=of_decide_eq_true (by first|(with_reducible assumption)|assumption);obtain ⟨ad104,e104,hx104_0⟩:=Kd.at_int HR0_1.out x37_2 p104 q104;cases e104;replace hx104_0:=(HB.out.cell (World.block_lt_of_cell? w _ hx104_0)).trans hx104_0;replace p104:=eq_true p104;replace q104:=eq_true q104)|(go_at_call 26;(with_reducible refine (spec_l1in.calls (rd l0_1 x37_2) 0 1000000 true _ A19.out).mono ?_);rintro e w' ⟨rfl,⟨nd,rfl⟩⟩))
            go_roundg k2
            case measure=>have:=HJ1.out;have:=HK2.out;omega
            case rel=>exact ⟨(wrap64 (x37_2 + 1)),(by first|rfl|(simp;done)|(simp [*];done)),H',⟨by have:=HJ1.out;have:=HK2.out;omega⟩,⟨by (with_reducible repeat (first|refine zH ?_ _|refine zI ?_|refine zG ?_ _));exact BK101.out⟩,⟨by repeat (first|(with_reducible first|exact HB.out|apply zA|apply zB|apply zC|refine zF ?_ GE101.out)|exact HB.out)⟩⟩
           ·replace c20:=Bool.eq_false_iff.mpr c20;subst c20
            have H1 : (some 2) = some r:=by rw [if_neg (show ¬ (false = true) by decide)] at H;exact H
            clear H;have H:=H1;clear H1;obtain rfl:=Option.some.inj H;have p102 : 0 ≤ (x37_2 : Int):=of_decide_eq_true (by first|(with_reducible assumption)|assumption)
            have q102 : x37_2 < (l0_0.length : Int):=of_decide_eq_true (by first|(with_reducible assumption)|assumption)
            obtain ⟨ad102,e102,hx102_0⟩:=Kd.at_int HR0_0.out x37_2 p102 q102;cases e102;replace hx102_0:=(HB.out.cell (World.block_lt_of_cell? w _ hx102_0)).trans hx102_0;replace p102:=eq_true p102;replace q102:=eq_true q102;go_wp2_with (first|((with_reducible refine gate_callee (f:=26) rfl ?_);refine goesL_ (some 45) rfl rfl Try.func26 (by kernel_rfl) rfl #[.int .i64 (rd l0_0 x37_2),.int .i64 (-1),.int .i64 (wrap64 ((l0_0.length : Int) - 1))] rfl (by (try simp only [List.map_toArray,List.map_cons,List.map_nil]);first|done|rfl|(simp only [List.length_drop,List.length_take];rfl)) ?_;(with_reducible refine (spec_l1in.calls (rd l0_0 x37_2) (-1) (wrap64 ((l0_0.length : Int) - 1)) true _ A16.out).mono ?_);rintro e w' ⟨rfl,⟨nd,rfl⟩⟩;refine ⟨_,rfl,?_⟩;have hcz22_0 : wr.cell? ⟨gb101,0,none⟩ = some (.slice (some ad102) l0_0.length c0_0):=(zD BK101.out 0).trans rfl;have hcz22_1 : wr.cell? ⟨gb101,1,none⟩ = some (.slice A0_1 l0_1.length c0_1):=(zD BK101.out 1).trans rfl;have hcz22_2 : wr.cell? ⟨gb101,2,none⟩ = some (.slice A0_2 l0_2.length c0_2):=(zD BK101.out 2).trans rfl;have hcz22_3 : wr.cell? ⟨gb101,3,none⟩ = some (.slice A0_3 l0_3.length c0_3):=(zD BK101.out 3).trans rfl;have hfz22_0:=zE BK101.out 0;have hfz22_1:=zE BK101.out 1;have hfz22_2:=zE BK101.out 2;have hfz22_3:=zE BK101.out 3;have p104 : 0 ≤ (x37_2 : Int):=of_decide_eq_true (by first|(with_reducible assumption)|assumption);have q104 : x37_2 < (l0_1.length : Int):=of_decide_eq_true (by first|(with_reducible assumption)|assumption);obtain ⟨ad104,e104,hx104_0⟩:=Kd.at_int HR0_1.out x37_2 p104 q104;cases e104;replace hx104_0:=(HB.out.cell (World.block_lt_of_cell? w _ hx104_0)).trans hx104_0;replace p104:=eq_true p104;replace q104:=eq_true q104)|(go_at_call 26;(with_reducible refine (spec_l1in.calls (rd l0_1 x37_2) 0 1000000 false _ A19.out).mono ?_);rintro e w' ⟨rfl,⟨nd,rfl⟩⟩))
            go_ret
            exact ⟨by first|rfl|(simp [errW_none,errW_some] <;> rfl)|(simp [*,errW_none,errW_some] <;> rfl),by repeat (first|(with_reducible first|exact HB.out|apply zA|apply zB|apply zC|refine zF ?_ GE101.out)|exact HB.out)⟩
          ·rw [if_neg c18] at H;exact absurd H (by simp)
         ·replace c17:=Bool.eq_false_iff.mpr c17;subst c17
          have H1 : (some 2) = some r:=by rw [if_neg (show ¬ (false = true) by decide)] at H;exact H
          clear H;have H:=H1;clear H1;obtain rfl:=Option.some.inj H;have p102 : 0 ≤ (x37_2 : Int):=of_decide_eq_true (by first|(with_reducible assumption)|assumption)
          have q102 : x37_2 < (l0_0.length : Int):=of_decide_eq_true (by first|(with_reducible assumption)|assumption)
          obtain ⟨ad102,e102,hx102_0⟩:=Kd.at_int HR0_0.out x37_2 p102 q102;cases e102;replace hx102_0:=(HB.out.cell (World.block_lt_of_cell? w _ hx102_0)).trans hx102_0;replace p102:=eq_true p102;replace q102:=eq_true q102;go_wp2_with (first|((with_reducible refine gate_callee (f:=26) rfl ?_);refine goesL_ (some 45) rfl rfl Try.func26 (by kernel_rfl) rfl #[.int .i64 (rd l0_0 x37_2),.int .i64 (-1),.int .i64 (wrap64 ((l0_0.length : Int) - 1))] rfl (by (try simp only [List.map_toArray,List.map_cons,List.map_nil]);first|done|rfl|(simp only [List.length_drop,List.length_take];rfl)) ?_;(with_reducible refine (spec_l1in.calls (rd l0_0 x37_2) (-1) (wrap64 ((l0_0.length : Int) - 1)) false _ A16.out).mono ?_);rintro e w' ⟨rfl,⟨nd,rfl⟩⟩;refine ⟨_,rfl,?_⟩))
          go_ret
          exact ⟨by first|rfl|(simp [errW_none,errW_some] <;> rfl)|(simp [*,errW_none,errW_some] <;> rfl),by repeat (first|(with_reducible first|exact HB.out|apply zA|apply zB|apply zC|refine zF ?_ GE101.out)|exact HB.out)⟩
        ·rw [if_neg c15] at H;exact absurd H (by simp)
       ·rw [if_neg c14] at H;exact absurd H (by simp)
      ·rw [if_neg c13] at H;have c13b0 : decide (x37_2 < (l0_0.length : Int)) = false:=decide_eq_false c13;clear c13;have H':=zm H;clear H;have hcz23_0 : wr.cell? ⟨gb101,0,none⟩ = some (.slice A0_0 l0_0.length c0_0):=(zD BK101.out 0).trans rfl;have hcz23_1 : wr.cell? ⟨gb101,1,none⟩ = some (.slice A0_1 l0_1.length c0_1):=(zD BK101.out 1).trans rfl;have hcz23_2 : wr.cell? ⟨gb101,2,none⟩ = some (.slice A0_2 l0_2.length c0_2):=(zD BK101.out 2).trans rfl;have hcz23_3 : wr.cell? ⟨gb101,3,none⟩ = some (.slice A0_3 l0_3.length c0_3):=(zD BK101.out 3).trans rfl;have hfz23_0:=zE BK101.out 0;have hfz23_1:=zE BK101.out 1;have hfz23_2:=zE BK101.out 2;have hfz23_3:=zE BK101.out 3;go_wp2;go_loopg [60] k2 (fun kq v60 w'=>∃ (x60_3 : Int),v60 = .int .i64 x60_3∧Aside0 (spec_RowOk.l1 kq l0_3 (l0_3.length : Int) x60_3 = some r)∧Aside0 (kq ≤ k2)∧Aside0 (w'.heap[gb101]? = some (.cells #[(.slice A0_0 l0_0.length c0_0),(.slice A0_1 l0_1.length c0_1),(.slice A0_2 l0_2.length c0_2),(.slice A0_3 l0_3.length c0_3)] 30 (0,0)))∧Aside0 (Below w.heap.size w w'))
       case atStart=>exact ⟨(0),(by first|rfl|(simp;done)|(simp [*];done)),H',⟨Nat.le_refl _⟩,⟨by (with_reducible repeat (first|refine zH ?_ _|refine zI ?_|refine zG ?_ _));exact BK101.out⟩,⟨by repeat (first|(with_reducible first|exact HB.out|apply zA|apply zB|apply zC|refine zF ?_ GE101.out)|exact HB.out)⟩⟩
       case round =>
        clear H';(try clear c1);(try clear p1);(try clear q1);(try clear hx1);(try clear c2);(try clear p2);(try clear c5);(try clear c5b0);(try clear c5b1);(try clear c6);(try clear c6b0);(try clear c6b1);(try clear c6b2);(try clear p6);(try clear c7);(try clear c7b0);(try clear c7b1);(try clear c7b2);(try clear p10);(try clear q10);(try clear hx10);(try clear c11);(try clear c13);(try clear c13b0);(try clear c14);(try clear c14b0);(try clear c15);(try clear c15b0);(try clear c17);(try clear c18);(try clear c18b0);(try clear c20);(try clear hcz10_0);(try clear hcz10_1);(try clear hcz10_2);(try clear hcz10_3);(try clear hcz12_0);(try clear hcz12_1);(try clear hcz12_2);(try clear hcz12_3);(try clear hcz21_0);(try clear hcz21_1);(try clear hcz21_2);(try clear hcz21_3);(try clear hcz22_0);(try clear hcz22_1);(try clear hcz22_2);(try clear hcz22_3);(try clear hcz23_0);(try clear hcz23_1);(try clear hcz23_2);(try clear hcz23_3);(try clear hcz4_0);(try clear hcz4_1);(try clear hcz4_2);(try clear hcz4_3);(try clear hcz8_0);(try clear hcz8_1);(try clear hcz8_2);(try clear hcz8_3);(try clear hcz9_0);(try clear hcz9_1);(try clear hcz9_2);(try clear hcz9_3);(try clear hfz10_0);(try clear hfz10_1);(try clear hfz10_2);(try clear hfz10_3);(try clear hfz12_0);(try clear hfz12_1);(try clear hfz12_2);(try clear hfz12_3);(try clear hfz21_0);(try clear hfz21_1);(try clear hfz21_2);(try clear hfz21_3);(try clear hfz22_0);(try clear hfz22_1);(try clear hfz22_2);(try clear hfz22_3);(try clear hfz23_0);(try clear hfz23_1);(try clear hfz23_2);(try clear hfz23_3);(try clear hfz4_0);(try clear hfz4_1);(try clear hfz4_2);(try clear hfz4_3);(try clear hfz8_0);(try clear hfz8_1);(try clear hfz8_2);(try clear hfz8_3);(try clear hfz9_0);(try clear hfz9_1);(try clear hfz9_2);(try clear hfz9_3);(try clear hx102_0);(try clear hx104_0);(try clear p102);(try clear p104);(try clear p2);(try clear q102);(try clear q104);obtain ⟨x60_3,rfl,HA,HK3,BK101,HB⟩:=hrel;cases gk with
        | zero=>exact absurd HA.out (by simp [spec_RowOk.l1])
        | succ k3 =>
         have H:=HA.out;clear HA;simp only [spec_RowOk.l1] at H
         by_cases c24 : x60_3 < (l0_3.length : Int)
         ·rw [if_pos c24] at H;have c24b0 : decide (x60_3 < (l0_3.length : Int)) = true:=decide_eq_true c24;clear c24;by_cases c25 : 0 ≤ x60_3
          ·rw [if_pos c25] at H;have c25b0 : decide (0 ≤ x60_3) = true:=decide_eq_true c25;clear c25;by_cases c26 : x60_3 < (l0_3.length : Int)
           ·rw [if_pos c26] at H;have c26b0 : decide (x60_3 < (l0_3.length : Int)) = true:=decide_eq_true c26;clear c26;by_cases c27 : ((rd_L1 l0_3 x60_3).length : Int) = 4
            ·rw [if_pos c27] at H;have c27b0 : (((rd_L1 l0_3 x60_3).length : Int) == 4) = true:=beq_iff_eq.mpr c27;have c27b1 : (((rd_L1 l0_3 x60_3).length : Int) != 4) = false:=bne_eq_false_iff_eq.mpr c27;clear c27;have H':=zm H;clear H;have p106 : 0 ≤ (x60_3 : Int):=of_decide_eq_true (by first|(with_reducible assumption)|assumption)
             have q106 : x60_3 < (l0_3.length : Int):=of_decide_eq_true (by first|(with_reducible assumption)|assumption)
             obtain ⟨ad106,A106_0,c106_0,e106,hx106_0,hl106_0,hi106_0⟩:=at_L1 HR0_3.out x60_3 p106 q106;cases e106;replace hx106_0:=(HB.out.cell (World.block_lt_of_cell? w _ hx106_0)).trans hx106_0;have HR106_0:=zm hi106_0;have HC106_0:=zm hl106_0;clear hi106_0 hl106_0;replace p106:=eq_true p106;replace q106:=eq_true q106;go_wp2;go_roundg k3
             case measure=>have:=HJ1.out;have:=HK2.out;have:=HK3.out;omega
             case rel=>exact ⟨(wrap64 (x60_3 + 1)),(by first|rfl|(simp;done)|(simp [*];done)),H',⟨by have:=HJ1.out;have:=HK2.out;have:=HK3.out;omega⟩,⟨by (with_reducible repeat (first|refine zH ?_ _|refine zI ?_|refine zG ?_ _));exact BK101.out⟩,⟨by repeat (first|(with_reducible first|exact HB.out|apply zA|apply zB|apply zC|refine zF ?_ GE101.out)|exact HB.out)⟩⟩
            ·rw [if_neg c27] at H;have c27b0 : (((rd_L1 l0_3 x60_3).length : Int) == 4) = false:=beq_eq_false_iff_ne.mpr c27;have c27b1 : (((rd_L1 l0_3 x60_3).length : Int) != 4) = true:=bne_iff_ne.mpr c27;obtain rfl:=Option.some.inj H;have p106 : 0 ≤ (x60_3 : Int):=of_decide_eq_true (by first|(with_reducible assumption)|assumption)
             have q106 : x60_3 < (l0_3.length : Int):=of_decide_eq_true (by first|(with_reducible assumption)|assumption)
             obtain ⟨ad106,A106_0,c106_0,e106,hx106_0,hl106_0,hi106_0⟩:=at_L1 HR0_3.out x60_3 p106 q106;cases e106;replace hx106_0:=(HB.out.cell (World.block_lt_of_cell? w _ hx106_0)).trans hx106_0;have HR106_0:=zm hi106_0;have HC106_0:=zm hl106_0;clear hi106_0 hl106_0;replace p106:=eq_true p106;replace q106:=eq_true q106;go_wp2;go_ret
             exact ⟨by first|rfl|(simp [errW_none,errW_some] <;> rfl)|(simp [*,errW_none,errW_some] <;> rfl),by repeat (first|(with_reducible first|exact HB.out|apply zA|apply zB|apply zC|refine zF ?_ GE101.out)|exact HB.out)⟩
           ·rw [if_neg c26] at H;exact absurd H (by simp)
          ·rw [if_neg c25] at H;exact absurd H (by simp)
         ·rw [if_neg c24] at H;have c24b0 : decide (x60_3 < (l0_3.length : Int)) = false:=decide_eq_false c24;clear c24;obtain rfl:=Option.some.inj H;go_wp2;go_ret
          exact ⟨by first|rfl|(simp [errW_none,errW_some] <;> rfl)|(simp [*,errW_none,errW_some] <;> rfl),by repeat (first|(with_reducible first|exact HB.out|apply zA|apply zB|apply zC|refine zF ?_ GE101.out)|exact HB.out)⟩

/-! ### impl_RowOk: function 45 -/
mutual
def impl_RowOk.j0 : Nat→Int→Bool→List Int→List Int→List Bool→List (List Bool)→Option (Int)
 | 0,_,_,_,_,_,_=>none
 | k + 1,x3,x31,x248000,x248001,x248002,x248003=>if x31 = true then (some 1) else (impl_RowOk.l0 k x3 x3 0 x248000 x248001 x248002 x248003)
def impl_RowOk.l0 : Nat→Int→Int→Int→List Int→List Int→List Bool→List (List Bool)→Option (Int)
 | 0,_,_,_,_,_,_,_=>none
 | k + 1,x3,x32,x33,x248000,x248001,x248002,x248003=>if x33 < x32 then (if 0 ≤ x33 then (if x33 < (x248000.length : Int) then (if (rd x248000 x33) < (-1) then (some 2) else (if (rd x248000 x33) ≥ x3 then (some 2) else (if x33 < (x248001.length : Int) then (if (rd x248001 x33) < 0 then (some 2) else (if (rd x248001 x33) > 1000000 then (some 2) else (impl_RowOk.l0 k x3 x32 (wrap64 (x33 + 1)) x248000 x248001 x248002 x248003))) else (none)))) else (none)) else (none)) else (impl_RowOk.l1 k x3 0 x248000 x248001 x248002 x248003)
def impl_RowOk.l1 : Nat→Int→Int→List Int→List Int→List Bool→List (List Bool)→Option (Int)
 | 0,_,_,_,_,_,_=>none
 | k + 1,x68,x69,x248000,x248001,x248002,x248003=>if x69 < x68 then (if 0 ≤ x69 then (if x69 < (x248003.length : Int) then (if ((rd_L1 x248003 x69).length : Int) = 4 then (impl_RowOk.l1 k x68 (wrap64 (x69 + 1)) x248000 x248001 x248002 x248003) else (some 3)) else (none)) else (none)) else (some 0)
end
def impl_RowOk.f (k : Nat) (l0_0 : List Int) (l0_1 : List Int) (l0_2 : List Bool) (l0_3 : List (List Bool)) : Option (Int):=if (l0_0.length : Int) > 60 then (impl_RowOk.j0 k (l0_0.length : Int) true l0_0 l0_1 l0_2 l0_3) else (if (l0_1.length : Int) = (l0_0.length : Int) then (if (l0_2.length : Int) = (l0_0.length : Int) then (impl_RowOk.j0 k (l0_0.length : Int) ((l0_3.length : Int) != (l0_0.length : Int)) l0_0 l0_1 l0_2 l0_3) else (impl_RowOk.j0 k (l0_0.length : Int) true l0_0 l0_1 l0_2 l0_3)) else (impl_RowOk.j0 k (l0_0.length : Int) true l0_0 l0_1 l0_2 l0_3))
theorem impl_RowOk.mono_l : ∀ k,(∀ y0 y1 y2 y3 y4 y5,LeO (impl_RowOk.j0 k y0 y1 y2 y3 y4 y5) (impl_RowOk.j0 (k + 1) y0 y1 y2 y3 y4 y5))∧(∀ y0 y1 y2 y3 y4 y5 y6,LeO (impl_RowOk.l0 k y0 y1 y2 y3 y4 y5 y6) (impl_RowOk.l0 (k + 1) y0 y1 y2 y3 y4 y5 y6))∧(∀ y0 y1 y2 y3 y4 y5,LeO (impl_RowOk.l1 k y0 y1 y2 y3 y4 y5) (impl_RowOk.l1 (k + 1) y0 y1 y2 y3 y4 y5))
 | 0=>⟨fun _ _ _ _ _ _ r h=>by simp [impl_RowOk.j0] at h,fun _ _ _ _ _ _ _ r h=>by simp [impl_RowOk.l0] at h,fun _ _ _ _ _ _ r h=>by simp [impl_RowOk.l1] at h⟩
 | k + 1=>by
  obtain ⟨ih0,ih1,ih2⟩:=impl_RowOk.mono_l k;refine ⟨?_,?_,?_⟩
  ·intro y0 y1 y2 y3 y4 y5
   unfold impl_RowOk.j0
   repeat' first
   | (with_reducible exact ih0 _ _ _ _ _ _)
   | (with_reducible exact ih1 _ _ _ _ _ _ _)
   | (with_reducible exact ih2 _ _ _ _ _ _)
   | (with_reducible exact LeO.refl _)
   | (with_reducible exact LeO.none _)
   | (with_reducible refine LeO.ite ?_ ?_)
   | (with_reducible refine LeO.bind ?_ (fun _=>?_))
   | exact ih0 _ _ _ _ _ _
   | exact ih1 _ _ _ _ _ _ _
   | exact ih2 _ _ _ _ _ _
   | exact LeO.none _
   | refine LeO.ite ?_ ?_
   | refine LeO.bind ?_ (fun _=>?_)
  ·intro y0 y1 y2 y3 y4 y5 y6
   unfold impl_RowOk.l0
   repeat' first
   | (with_reducible exact ih0 _ _ _ _ _ _)
   | (with_reducible exact ih1 _ _ _ _ _ _ _)
   | (with_reducible exact ih2 _ _ _ _ _ _)
   | (with_reducible exact LeO.refl _)
   | (with_reducible exact LeO.none _)
   | (with_reducible refine LeO.ite ?_ ?_)
   | (with_reducible refine LeO.bind ?_ (fun _=>?_))
   | exact ih0 _ _ _ _ _ _
   | exact ih1 _ _ _ _ _ _ _
   | exact ih2 _ _ _ _ _ _
   | exact LeO.none _
   | refine LeO.ite ?_ ?_
   | refine LeO.bind ?_ (fun _=>?_)
  ·intro y0 y1 y2 y3 y4 y5
   unfold impl_RowOk.l1
   repeat' first
   | (with_reducible exact ih0 _ _ _ _ _ _)
   | (with_reducible exact ih1 _ _ _ _ _ _ _)
   | (with_reducible exact ih2 _ _ _ _ _ _)
   | (with_reducible exact LeO.refl _)
   | (with_reducible exact LeO.none _)
   | (with_reducible refine LeO.ite ?_ ?_)
   | (with_reducible refine LeO.bind ?_ (fun _=>?_))
   | exact ih0 _ _ _ _ _ _
   | exact ih1 _ _ _ _ _ _ _
   | exact ih2 _ _ _ _ _ _
   | exact LeO.none _
   | refine LeO.ite ?_ ?_
   | refine LeO.bind ?_ (fun _=>?_)
theorem impl_RowOk.mono : ∀ a0 a1 a2 a3 k,LeO (impl_RowOk.f k a0 a1 a2 a3) (impl_RowOk.f (k + 1) a0 a1 a2 a3):=by
 intro a0 a1 a2 a3 k
 obtain ⟨ih0,ih1,ih2⟩:=impl_RowOk.mono_l k;unfold impl_RowOk.f
 repeat' first
   | (with_reducible exact ih0 _ _ _ _ _ _)
   | (with_reducible exact ih1 _ _ _ _ _ _ _)
   | (with_reducible exact ih2 _ _ _ _ _ _)
   | (with_reducible exact LeO.refl _)
   | (with_reducible exact LeO.none _)
   | (with_reducible refine LeO.ite ?_ ?_)
   | (with_reducible refine LeO.bind ?_ (fun _=>?_))
   | exact ih0 _ _ _ _ _ _
   | exact ih1 _ _ _ _ _ _ _
   | exact ih2 _ _ _ _ _ _
   | exact LeO.none _
   | refine LeO.ite ?_ ?_
   | refine LeO.bind ?_ (fun _=>?_)
set_option maxHeartbeats 8000000 in
set_option maxRecDepth 100000 in
theorem impl_RowOk.calls (k : Nat) (A0_0 : Option Addr) (c0_0 : Nat) (l0_0 : List Int) (A0_1 : Option Addr) (c0_1 : Nat) (l0_1 : List Int) (A0_2 : Option Addr) (c0_2 : Nat) (l0_2 : List Bool) (A0_3 : Option Addr) (c0_3 : Nat) (l0_3 : List (List Bool)) (r : Int) (w : World) (hr0_0 : Kd.C (Kd.int .i64) w A0_0 l0_0.length l0_0) (hc0_0 : l0_0.length ≤ c0_0) (hr0_1 : Kd.C (Kd.int .i64) w A0_1 l0_1.length l0_1) (hc0_1 : l0_1.length ≤ c0_1) (hr0_2 : Kd.C Kd.bool w A0_2 l0_2.length l0_2) (hc0_2 : l0_2.length ≤ c0_2) (hr0_3 : Kd.C (Kd.slice 4 Kd.bool) w A0_3 l0_3.length l0_3) (hc0_3 : l0_3.length ≤ c0_3) (h : impl_RowOk.f k l0_0 l0_1 l0_2 l0_3 = some r) :
  Calls Try.prog 45 #[.agg #[.slice A0_0 l0_0.length c0_0,.slice A0_1 l0_1.length c0_1,.slice A0_2 l0_2.length c0_2,.slice A0_3 l0_3.length c0_3]] w fun e w'=>e = .returned (.int .i64 r)∧Below w.heap.size w w':=by
 have hu30:=Try.underlying30;have HR0_0:=zm hr0_0;have HC0_0:=zm hc0_0;clear hr0_0 hc0_0;have HR0_1:=zm hr0_1;have HC0_1:=zm hc0_1;clear hr0_1 hc0_1;have HR0_2:=zm hr0_2;have HC0_2:=zm hc0_2;clear hr0_2 hc0_2;have HR0_3:=zm hr0_3;have HC0_3:=zm hc0_3;clear hr0_3 hc0_3;have HB:=zm (Below.refl w.heap.size w);have H : (if (l0_0.length : Int) > 60 then (impl_RowOk.j0 k (l0_0.length : Int) true l0_0 l0_1 l0_2 l0_3) else (if (l0_1.length : Int) = (l0_0.length : Int) then (if (l0_2.length : Int) = (l0_0.length : Int) then (impl_RowOk.j0 k (l0_0.length : Int) ((l0_3.length : Int) != (l0_0.length : Int)) l0_0 l0_1 l0_2 l0_3) else (impl_RowOk.j0 k (l0_0.length : Int) true l0_0 l0_1 l0_2 l0_3)) else (impl_RowOk.j0 k (l0_0.length : Int) true l0_0 l0_1 l0_2 l0_3))) = some r:=h;clear h;have HC2:=zm H;clear H;go_enter Try.func45,Try.ntmps45
 go_upto_region 2 with (first|((with_reducible refine zM (N:=1) rfl ?_);(try (refine gate_guard (by rfl) ?_;dsimp only));refine zN ?hg (N:=1) ?hd (cs:=#[.slice A0_0 l0_0.length c0_0,.slice A0_1 l0_1.length c0_1,.slice A0_2 l0_2.length c0_2,.slice A0_3 l0_3.length c0_3]) (t:=30) ?hr ?_;(case hd=>rfl);(case hg=>rfl);(case hr=>first|(go_simp;done)|(go_simp;rfl));intro gb247 hg w3 hbox hb;have n0_:=zm (zK (by repeat (first|(with_reducible first|exact HB.out|apply zA|apply zB|apply zC)|exact HB.out)) hb);have n1_:=zm (hbox);have n2_:=zm ((by rw [hg];exact (zJ (by repeat (first|(with_reducible first|exact HB.out|apply zA|apply zB|apply zC)|exact HB.out))) : w.heap.size ≤ gb247));have n3_:=zm ((by rw [hg];exact (zJ (by repeat (first|(with_reducible first|exact HB.out|apply zA|apply zB|apply zC)|exact HB.out))) : w.heap.size ≤ gb247));clear HB;have HB:=n0_;have BK247:=n1_;have GW247:=n2_;have GE247:=n3_;clear n0_ n1_ n2_ n3_;clear hb hbox hg;have hcz4_0 : w3.cell? ⟨gb247,0,none⟩ = some (.slice A0_0 l0_0.length c0_0):=(zD BK247.out 0).trans rfl;have hcz4_1 : w3.cell? ⟨gb247,1,none⟩ = some (.slice A0_1 l0_1.length c0_1):=(zD BK247.out 1).trans rfl;have hcz4_2 : w3.cell? ⟨gb247,2,none⟩ = some (.slice A0_2 l0_2.length c0_2):=(zD BK247.out 2).trans rfl;have hcz4_3 : w3.cell? ⟨gb247,3,none⟩ = some (.slice A0_3 l0_3.length c0_3):=(zD BK247.out 3).trans rfl;have hfz4_0:=zE BK247.out 0;have hfz4_1:=zE BK247.out 1;have hfz4_2:=zE BK247.out 2;have hfz4_3:=zE BK247.out 3))
 (try simp only [Act.put,List.setIfInBounds_toArray,List.set_cons_zero,List.set_cons_succ]);go_cut [31] (fun v31 wc=>∃ (kq : Nat) (x31_1 : Bool),v31 = .bool x31_1∧Aside0 (impl_RowOk.j0 kq (l0_0.length : Int) x31_1 l0_0 l0_1 l0_2 l0_3 = some r)∧Aside0 (kq ≤ k)∧Aside0 (wc.heap[gb247]? = some (.cells #[(.slice A0_0 l0_0.length c0_0),(.slice A0_1 l0_1.length c0_1),(.slice A0_2 l0_2.length c0_2),(.slice A0_3 l0_3.length c0_3)] 30 (0,0)))∧Aside0 (Below w.heap.size w wc))
 case first =>
  have H:=HC2.out;clear HC2;by_cases c5 : (l0_0.length : Int) > 60
  ·rw [if_pos c5] at H;have c5b0 : decide (60 < (l0_0.length : Int)) = true:=decide_eq_true c5;have c5b1 : decide (60 < l0_0.length) = true:=decide_eq_true (by omega)
   clear c5;(first|rw [c5b0]|(simp only [i64_w,i32_w];rw [c5b0])|skip)
   have H':=zm H;clear H;go_wp2;go_meet
   case rel=>exact ⟨_,(true),(by first|rfl|(simp;done)|(simp [*];done)),H',⟨by first|omega|exact Nat.le_refl _⟩,⟨by (with_reducible repeat (first|refine zH ?_ _|refine zI ?_|refine zG ?_ _));exact BK247.out⟩,⟨by repeat (first|(with_reducible first|exact HB.out|apply zA|apply zB|apply zC|refine zF ?_ GE247.out)|exact HB.out)⟩⟩
  ·rw [if_neg c5] at H;have c5b0 : decide (60 < (l0_0.length : Int)) = false:=decide_eq_false c5;have c5b1 : decide (60 < l0_0.length) = false:=decide_eq_false (by omega)
   clear c5;(first|rw [c5b0]|(simp only [i64_w,i32_w];rw [c5b0])|skip)
   by_cases c6 : (l0_1.length : Int) = (l0_0.length : Int)
   ·rw [if_pos c6] at H;have c6b0 : ((l0_1.length : Int) == (l0_0.length : Int)) = true:=beq_iff_eq.mpr c6;have c6b1 : ((l0_1.length : Int) != (l0_0.length : Int)) = false:=bne_eq_false_iff_eq.mpr c6;have c6b2 : (l0_1.length == l0_0.length) = true:=by first|simpa using c6|(simp at c6 ⊢;omega)
    clear c6;by_cases c7 : (l0_2.length : Int) = (l0_0.length : Int)
    ·rw [if_pos c7] at H;have c7b0 : ((l0_2.length : Int) == (l0_0.length : Int)) = true:=beq_iff_eq.mpr c7;have c7b1 : ((l0_2.length : Int) != (l0_0.length : Int)) = false:=bne_eq_false_iff_eq.mpr c7;have c7b2 : (l0_2.length == l0_0.length) = true:=by first|simpa using c7|(simp at c7 ⊢;omega)
     clear c7;have H':=zm H;clear H;have hcz8_0 : w3.cell? ⟨gb247,0,none⟩ = some (.slice A0_0 l0_0.length c0_0):=(zD BK247.out 0).trans rfl;have hcz8_1 : w3.cell? ⟨gb247,1,none⟩ = some (.slice A0_1 l0_1.length c0_1):=(zD BK247.out 1).trans rfl;have hcz8_2 : w3.cell? ⟨gb247,2,none⟩ = some (.slice A0_2 l0_2.length c0_2):=(zD BK247.out 2).trans rfl;have hcz8_3 : w3.cell? ⟨gb247,3,none⟩ = some (.slice A0_3 l0_3.length c0_3):=(zD BK247.out 3).trans rfl;have hfz8_0:=zE BK247.out 0;have hfz8_1:=zE BK247.out 1;have hfz8_2:=zE BK247.out 2;have hfz8_3:=zE BK247.out 3;go_wp2;go_meet
     case rel=>exact ⟨_,(((l0_3.length : Int) != (l0_0.length : Int))),(by first|rfl|(simp;done)|(simp [*];done)),H',⟨by first|omega|exact Nat.le_refl _⟩,⟨by (with_reducible repeat (first|refine zH ?_ _|refine zI ?_|refine zG ?_ _));exact BK247.out⟩,⟨by repeat (first|(with_reducible first|exact HB.out|apply zA|apply zB|apply zC|refine zF ?_ GE247.out)|exact HB.out)⟩⟩
    ·rw [if_neg c7] at H;have c7b0 : ((l0_2.length : Int) == (l0_0.length : Int)) = false:=beq_eq_false_iff_ne.mpr c7;have c7b1 : ((l0_2.length : Int) != (l0_0.length : Int)) = true:=bne_iff_ne.mpr c7;have c7b2 : (l0_2.length == l0_0.length) = false:=by first|simpa using c7|(simp at c7 ⊢;omega)
     have H':=zm H;clear H;have hcz9_0 : w3.cell? ⟨gb247,0,none⟩ = some (.slice A0_0 l0_0.length c0_0):=(zD BK247.out 0).trans rfl;have hcz9_1 : w3.cell? ⟨gb247,1,none⟩ = some (.slice A0_1 l0_1.length c0_1):=(zD BK247.out 1).trans rfl;have hcz9_2 : w3.cell? ⟨gb247,2,none⟩ = some (.slice A0_2 l0_2.length c0_2):=(zD BK247.out 2).trans rfl;have hcz9_3 : w3.cell? ⟨gb247,3,none⟩ = some (.slice A0_3 l0_3.length c0_3):=(zD BK247.out 3).trans rfl;have hfz9_0:=zE BK247.out 0;have hfz9_1:=zE BK247.out 1;have hfz9_2:=zE BK247.out 2;have hfz9_3:=zE BK247.out 3;go_wp2;go_meet
     case rel=>exact ⟨_,(true),(by first|rfl|(simp;done)|(simp [*];done)),H',⟨by first|omega|exact Nat.le_refl _⟩,⟨by (with_reducible repeat (first|refine zH ?_ _|refine zI ?_|refine zG ?_ _));exact BK247.out⟩,⟨by repeat (first|(with_reducible first|exact HB.out|apply zA|apply zB|apply zC|refine zF ?_ GE247.out)|exact HB.out)⟩⟩
   ·rw [if_neg c6] at H;have c6b0 : ((l0_1.length : Int) == (l0_0.length : Int)) = false:=beq_eq_false_iff_ne.mpr c6;have c6b1 : ((l0_1.length : Int) != (l0_0.length : Int)) = true:=bne_iff_ne.mpr c6;have c6b2 : (l0_1.length == l0_0.length) = false:=by first|simpa using c6|(simp at c6 ⊢;omega)
    have H':=zm H;clear H;have hcz10_0 : w3.cell? ⟨gb247,0,none⟩ = some (.slice A0_0 l0_0.length c0_0):=(zD BK247.out 0).trans rfl;have hcz10_1 : w3.cell? ⟨gb247,1,none⟩ = some (.slice A0_1 l0_1.length c0_1):=(zD BK247.out 1).trans rfl;have hcz10_2 : w3.cell? ⟨gb247,2,none⟩ = some (.slice A0_2 l0_2.length c0_2):=(zD BK247.out 2).trans rfl;have hcz10_3 : w3.cell? ⟨gb247,3,none⟩ = some (.slice A0_3 l0_3.length c0_3):=(zD BK247.out 3).trans rfl;have hfz10_0:=zE BK247.out 0;have hfz10_1:=zE BK247.out 1;have hfz10_2:=zE BK247.out 2;have hfz10_3:=zE BK247.out 3;go_wp2;go_meet
    case rel=>exact ⟨_,(true),(by first|rfl|(simp;done)|(simp [*];done)),H',⟨by first|omega|exact Nat.le_refl _⟩,⟨by (with_reducible repeat (first|refine zH ?_ _|refine zI ?_|refine zG ?_ _));exact BK247.out⟩,⟨by repeat (first|(with_reducible first|exact HB.out|apply zA|apply zB|apply zC|refine zF ?_ GE247.out)|exact HB.out)⟩⟩
 case rest =>
  clear HC2;(try clear p2);(try clear c4);(try clear c5);(try clear c5b0);(try clear c5b1);(try clear c6);(try clear c6b0);(try clear c6b1);(try clear c6b2);(try clear c7);(try clear c7b0);(try clear c7b1);(try clear c7b2);(try clear hcz10_0);(try clear hcz10_1);(try clear hcz10_2);(try clear hcz10_3);(try clear hcz4_0);(try clear hcz4_1);(try clear hcz4_2);(try clear hcz4_3);(try clear hcz8_0);(try clear hcz8_1);(try clear hcz8_2);(try clear hcz8_3);(try clear hcz9_0);(try clear hcz9_1);(try clear hcz9_2);(try clear hcz9_3);(try clear hfz10_0);(try clear hfz10_1);(try clear hfz10_2);(try clear hfz10_3);(try clear hfz4_0);(try clear hfz4_1);(try clear hfz4_2);(try clear hfz4_3);(try clear hfz8_0);(try clear hfz8_1);(try clear hfz8_2);(try clear hfz8_3);(try clear hfz9_0);(try clear hfz9_1);(try clear hfz9_2);(try clear hfz9_3);obtain ⟨kq,x31_1,rfl,HA,HJ1,BK247,HB⟩:=hcut;cases kq with
  | zero=>exact absurd HA.out (by simp [impl_RowOk.j0])
  | succ kj1 =>
   have H:=HA.out;clear HA;simp only [impl_RowOk.j0] at H
   by_cases c11 : x31_1 = true
   ·subst c11
    have H1 : (some 1) = some r:=by rw [if_pos rfl] at H;exact H
    clear H;have H:=H1;clear H1;obtain rfl:=Option.some.inj H;go_wp2;go_ret
    exact ⟨by first|rfl|(simp [errW_none,errW_some] <;> rfl)|(simp [*,errW_none,errW_some] <;> rfl),by repeat (first|(with_reducible first|exact HB.out|apply zA|apply zB|apply zC|refine zF ?_ GE247.out)|exact HB.out)⟩
   ·replace c11:=Bool.eq_false_iff.mpr c11;subst c11
    have H1 : (impl_RowOk.l0 kj1 (l0_0.length : Int) (l0_0.length : Int) 0 l0_0 l0_1 l0_2 l0_3) = some r:=by rw [if_neg (show ¬ (false = true) by decide)] at H;exact H
    clear H;have H:=H1;clear H1;have H':=zm H;clear H;go_wp2;go_loopg [33] kj1 (fun kq v33 w'=>∃ (x33_2 : Int),v33 = .int .i64 x33_2∧Aside0 (impl_RowOk.l0 kq (l0_0.length : Int) (l0_0.length : Int) x33_2 l0_0 l0_1 l0_2 l0_3 = some r)∧Aside0 (kq ≤ kj1)∧Aside0 (w'.heap[gb247]? = some (.cells #[(.slice A0_0 l0_0.length c0_0),(.slice A0_1 l0_1.length c0_1),(.slice A0_2 l0_2.length c0_2),(.slice A0_3 l0_3.length c0_3)] 30 (0,0)))∧Aside0 (Below w.heap.size w w'))
    case atStart=>exact ⟨(0),(by first|rfl|(simp;done)|(simp [*];done)),H',⟨Nat.le_refl _⟩,⟨by (with_reducible repeat (first|refine zH ?_ _|refine zI ?_|refine zG ?_ _));exact BK247.out⟩,⟨by repeat (first|(with_reducible first|exact HB.out|apply zA|apply zB|apply zC|refine zF ?_ GE247.out)|exact HB.out)⟩⟩
    case round =>
     clear H';(try clear c1);(try clear p2);(try clear c4);(try clear c5);(try clear c5b0);(try clear c5b1);(try clear c6);(try clear c6b0);(try clear c6b1);(try clear c6b2);(try clear c7);(try clear c7b0);(try clear c7b1);(try clear c7b2);(try clear c11);(try clear hcz10_0);(try clear hcz10_1);(try clear hcz10_2);(try clear hcz10_3);(try clear hcz4_0);(try clear hcz4_1);(try clear hcz4_2);(try clear hcz4_3);(try clear hcz8_0);(try clear hcz8_1);(try clear hcz8_2);(try clear hcz8_3);(try clear hcz9_0);(try clear hcz9_1);(try clear hcz9_2);(try clear hcz9_3);(try clear hfz10_0);(try clear hfz10_1);(try clear hfz10_2);(try clear hfz10_3);(try clear hfz4_0);(try clear hfz4_1);(try clear hfz4_2);(try clear hfz4_3);(try clear hfz8_0);(try clear hfz8_1);(try clear hfz8_2);(try clear hfz8_3);(try clear hfz9_0);(try clear hfz9_1);(try clear hfz9_2);(try clear hfz9_3);(try clear p2);obtain ⟨x33_2,rfl,HA,HK2,BK247,HB⟩:=hrel;cases gk with
     | zero=>exact absurd HA.out (by simp [impl_RowOk.l0])
     | succ k2 =>
      have H:=HA.out;clear HA;simp only [impl_RowOk.l0] at H
      by_cases c12 : x33_2 < (l0_0.length : Int)
      ·rw [if_pos c12] at H;have c12b0 : decide (x33_2 < (l0_0.length : Int)) = true:=decide_eq_true c12;clear c12;by_cases c13 : 0 ≤ x33_2
       ·rw [if_pos c13] at H;have c13b0 : decide (0 ≤ x33_2) = true:=decide_eq_true c13;clear c13;by_cases c14 : x33_2 < (l0_0.length : Int)
        ·rw [if_pos c14] at H;have c14b0 : decide (x33_2 < (l0_0.length : Int)) = true:=decide_eq_true c14;clear c14;by_cases c15 : (rd l0_0 x33_2) < (-1)
         ·rw [if_pos c15] at H;have c15b0 : decide ((rd l0_0 x33_2) < (-1)) = true:=decide_eq_true c15;clear c15;obtain rfl:=Option.some.inj H;have hcz16_0 : wr.cell? ⟨gb247,0,none⟩ = some (.slice A0_0 l0_0.length c0_0):=(zD BK247.out 0).trans rfl;have hcz16_1 : wr.cell? ⟨gb247,1,none⟩ = some (.slice A0_1 l0_1.length c0_1):=(zD BK247.out 1).trans rfl;have hcz16_2 : wr.cell? ⟨gb247,2,none⟩ = some (.slice A0_2 l0_2.length c0_2):=(zD BK247.out 2).trans rfl;have hcz16_3 : wr.cell? ⟨gb247,3,none⟩ = some (.slice A0_3 l0_3.length c0_3):=(zD BK247.out 3).trans rfl;have hfz16_0:=zE BK247.out 0;have hfz16_1:=zE BK247.out 1;have hfz16_2:=zE BK247.out 2;have hfz16_3:=zE BK247.out 3;have p248 : 0 ≤ (x33_2 : Int):=of_decide_eq_true (by first|(with_reducible assumption)|assumption)
          have q248 : x33_2 < (l0_0.length : Int):=of_decide_eq_true (by first|(with_reducible assumption)|assumption)
          obtain ⟨ad248,e248,hx248_0⟩:=Kd.at_int HR0_0.out x33_2 p248 q248;cases e248;replace hx248_0:=(HB.out.cell (World.block_lt_of_cell? w _ hx248_0)).trans hx248_0;replace p248:=eq_true p248;replace q248:=eq_true q248;go_wp2;go_ret
          exact ⟨by first|rfl|(simp [errW_none,errW_some] <;> rfl)|(simp [*,errW_none,errW_some] <;> rfl),by repeat (first|(with_reducible first|exact HB.out|apply zA|apply zB|apply zC|refine zF ?_ GE247.out)|exact HB.out)⟩
         ·rw [if_neg c15] at H;have c15b0 : decide ((rd l0_0 x33_2) < (-1)) = false:=decide_eq_false c15;clear c15;by_cases c17 : (rd l0_0 x33_2) ≥ (l0_0.length : Int)
          ·rw [if_pos c17] at H;have c17b0 : decide ((l0_0.length : Int) ≤ (rd l0_0 x33_2)) = true:=decide_eq_true c17;clear c17;obtain rfl:=Option.some.inj H;have hcz18_0 : wr.cell? ⟨gb247,0,none⟩ = some (.slice A0_0 l0_0.length c0_0):=(zD BK247.out 0).trans rfl;have hcz18_1 : wr.cell? ⟨gb247,1,none⟩ = some (.slice A0_1 l0_1.length c0_1):=(zD BK247.out 1).trans rfl;have hcz18_2 : wr.cell? ⟨gb247,2,none⟩ = some (.slice A0_2 l0_2.length c0_2):=(zD BK247.out 2).trans rfl;have hcz18_3 : wr.cell? ⟨gb247,3,none⟩ = some (.slice A0_3 l0_3.length c0_3):=(zD BK247.out 3).trans rfl;have hfz18_0:=zE BK247.out 0;have hfz18_1:=zE BK247.out 1;have hfz18_2:=zE BK247.out 2;have hfz18_3:=zE BK247.out 3;have p248 : 0 ≤ (x33_2 : Int):=of_decide_eq_true (by first|(with_reducible assumption)|assumption)
           have q248 : x33_2 < (l0_0.length : Int):=of_decide_eq_true (by first|(with_reducible assumption)|assumption)
           obtain ⟨ad248,e248,hx248_0⟩:=Kd.at_int HR0_0.out x33_2 p248 q248;cases e248;replace hx248_0:=(HB.out.cell (World.block_lt_of_cell? w _ hx248_0)).trans hx248_0;replace p248:=eq_true p248;replace q248:=eq_true q248;have p249 : 0 ≤ (x33_2 : Int):=of_decide_eq_true (by first|(with_reducible assumption)|assumption)
           have q249 : x33_2 < (l0_0.length : Int):=of_decide_eq_true (by first|(with_reducible assumption)|assumption)
           obtain ⟨ad249,e249,hx249_0⟩:=Kd.at_int HR0_0.out x33_2 p249 q249;obtain rfl : ad248 = ad249:=(by injection e249)
           replace hx249_0:=(HB.out.cell (World.block_lt_of_cell? w _ hx249_0)).trans hx249_0;replace p249:=eq_true p249;replace q249:=eq_true q249;go_wp2;go_ret
           exact ⟨by first|rfl|(simp [errW_none,errW_some] <;> rfl)|(simp [*,errW_none,errW_some] <;> rfl),by repeat (first|(with_reducible first|exact HB.out|apply zA|apply zB|apply zC|refine zF ?_ GE247.out)|exact HB.out)⟩
          ·rw [if_neg c17] at H;have c17b0 : decide ((l0_0.length : Int) ≤ (rd l0_0 x33_2)) = false:=decide_eq_false c17;clear c17;by_cases c19 : x33_2 < (l0_1.length : Int)
           ·rw [if_pos c19] at H;have c19b0 : decide (x33_2 < (l0_1.length : Int)) = true:=decide_eq_true c19;clear c19;by_cases c20 : (rd l0_1 x33_2) < 0
            ·rw [if_pos c20] at H;have c20b0 : decide ((rd l0_1 x33_2) < 0) = true:=decide_eq_true c20;clear c20;obtain rfl:=Option.some.inj H;have hcz21_0 : wr.cell? ⟨gb247,0,none⟩ = some (.slice A0_0 l0_0.length c0_0):=(zD BK247.out 0).trans rfl;have hcz21_1 : wr.cell? ⟨gb247,1,none⟩ = some (.slice A0_1 l0_1.length c0_1):=(zD BK247.out 1).trans rfl;have hcz21_2 : wr.cell? ⟨gb247,2,none⟩ = some (.slice A0_2 l0_2.length c0_2):=(zD BK247.out 2).trans rfl;have hcz21_3 : wr.cell? ⟨gb247,3,none⟩ = some (.slice A0_3 l0_3.length c0_3):=(zD BK247.out 3).trans rfl;have hfz21_0:=zE BK247.out 0;have hfz21_1:=zE BK247.out 1;have hfz21_2:=zE BK247.out 2;have hfz21_3:=zE BK247.out 3;have p248 : 0 ≤ (x33_2 : Int):=of_decide_eq_true (by first|(with_reducible assumption)|assumption)
             have q248 : x33_2 < (l0_0.length : Int):=of_decide_eq_true (by first|(with_reducible assumption)|assumption)
             obtain ⟨ad248,e248,hx248_0⟩:=Kd.at_int HR0_0.out x33_2 p248 q248;cases e248;replace hx248_0:=(HB.out.cell (World.block_lt_of_cell? w _ hx248_0)).trans hx248_0;replace p248:=eq_true p248;replace q248:=eq_true q248;have p249 : 0 ≤ (x33_2 : Int):=of_decide_eq_true (by first|(with_reducible assumption)|assumption)
             have q249 : x33_2 < (l0_0.length : Int):=of_decide_eq_true (by first|(with_reducible assumption)|assumption)
             obtain ⟨ad249,e249,hx249_0⟩:=Kd.at_int HR0_0.out x33_2 p249 q249;obtain rfl : ad248 = ad249:=(by injection e249)
             replace hx249_0:=(HB.out.cell (World.block_lt_of_cell? w _ hx249_0)).trans hx249_0;replace p249:=eq_true p249;replace q249:=eq_true q249;have p250 : 0 ≤ (x33_2 : Int):=of_decide_eq_true (by first|(with_reducible assumption)|assumption)
             have q250 : x33_2 < (l0_1.length : Int):=of_decide_eq_true (by first|(with_reducible assumption)|assumption)
             obtain ⟨ad250,e250,hx250_0⟩:=Kd.at_int HR0_1.out x33_2 p250 q250;cases e250;replace hx250_0:=(HB.out.cell (World.block_lt_of_cell? w _ hx250_0)).trans hx250_0;replace p250:=eq_true p250;replace q250:=eq_true q250;go_wp2;go_ret
             exact ⟨by first|rfl|(simp [errW_none,errW_some] <;> rfl)|(simp [*,errW_none,errW_some] <;> rfl),by repeat (first|(with_reducible first|exact HB.out|apply zA|apply zB|apply zC|refine zF ?_ GE247.out)|exact HB.out)⟩
            ·rw [if_neg c20] at H;have c20b0 : decide ((rd l0_1 x33_2) < 0) = false:=decide_eq_false c20;clear c20;by_cases c22 : (rd l0_1 x33_2) > 1000000
             ·rw [if_pos c22] at H;have c22b0 : decide (1000000 < (rd l0_1 x33_2)) = true:=decide_eq_true c22;clear c22;obtain rfl:=Option.some.inj H;have hcz23_0 : wr.cell? ⟨gb247,0,none⟩ = some (.slice A0_0 l0_0.length c0_0):=(zD BK247.out 0).trans rfl;have hcz23_1 : wr.cell? ⟨gb247,1,none⟩ = some (.slice A0_1 l0_1.length c0_1):=(zD BK247.out 1).trans rfl;have hcz23_2 : wr.cell? ⟨gb247,2,none⟩ = some (.slice A0_2 l0_2.length c0_2):=(zD BK247.out 2).trans rfl;have hcz23_3 : wr.cell? ⟨gb247,3,none⟩ = some (.slice A0_3 l0_3.length c0_3):=(zD BK247.out 3).trans rfl;have hfz23_0:=zE BK247.out 0;have hfz23_1:=zE BK247.out 1;have hfz23_2:=zE BK247.out 2;have hfz23_3:=zE BK247.out 3;have p248 : 0 ≤ (x33_2 : Int):=of_decide_eq_true (by first|(with_reducible assumption)|assumption)
              have q248 : x33_2 < (l0_0.length : Int):=of_decide_eq_true (by first|(with_reducible assumption)|assumption)
              obtain ⟨ad248,e248,hx248_0⟩:=Kd.at_int HR0_0.out x33_2 p248 q248;cases e248;replace hx248_0:=(HB.out.cell (World.block_lt_of_cell? w _ hx248_0)).trans hx248_0;replace p248:=eq_true p248;replace q248:=eq_true q248;have p249 : 0 ≤ (x33_2 : Int):=of_decide_eq_true (by first|(with_reducible assumption)|assumption)
              have q249 : x33_2 < (l0_0.length : Int):=of_decide_eq_true (by first|(with_reducible assumption)|assumption)
              obtain ⟨ad249,e249,hx249_0⟩:=Kd.at_int HR0_0.out x33_2 p249 q249;obtain rfl : ad248 = ad249:=(by injection e249)
              replace hx249_0:=(HB.out.cell (World.block_lt_of_cell? w _ hx249_0)).trans hx249_0;replace p249:=eq_true p249;replace q249:=eq_true q249;have p250 : 0 ≤ (x33_2 : Int):=of_decide_eq_true (by first|(with_reducible assumption)|assumption)
              have q250 : x33_2 < (l0_1.length : Int):=of_decide_eq_true (by first|(with_reducible assumption)|assumption)
              obtain ⟨ad250,e250,hx250_0⟩:=Kd.at_int HR0_1.out x33_2 p250 q250;cases e250;replace hx250_0:=(HB.out.cell (World.block_lt_of_cell? w _ hx250_0)).trans hx250_0;replace p250:=eq_true p250;replace q250:=eq_true q250;have p251 : 0 ≤ (x33_2 : Int):=of_decide_eq_true (by first|(with_reducible assumption)|assumption)
              have q251 : x33_2 < (l0_1.length : Int):=of_decide_eq_true (by first|(with_reducible assumption)|assumption)
              obtain ⟨ad251,e251,hx251_0⟩:=Kd.at_int HR0_1.out x33_2 p251 q251;obtain rfl : ad250 = ad251:=(by injection e251)
              replace hx251_0:=(HB.out.cell (World.block_lt_of_cell? w _ hx251_0)).trans hx251_0;replace p251:=eq_true p251;replace q251:=eq_true q251;go_wp2;go_ret
              exact ⟨by first|rfl|(simp [errW_none,errW_some] <;> rfl)|(simp [*,errW_none,errW_some] <;> rfl),by repeat (first|(with_reducible first|exact HB.out|apply zA|apply zB|apply zC|refine zF ?_ GE247.out)|exact HB.out)⟩
             ·rw [if_neg c22] at H;have c22b0 : decide (1000000 < (rd l0_1 x33_2)) = false:=decide_eq_false c22;clear c22;have H':=zm H;clear H;have hcz24_0 : wr.cell? ⟨gb247,0,none⟩ = some (.slice A0_0 l0_0.length c0_0):=(zD BK247.out 0).trans rfl;have hcz24_1 : wr.cell? ⟨gb247,1,none⟩ = some (.slice A0_1 l0_1.length c0_1):=(zD BK247.out 1).trans rfl;have hcz24_2 : wr.cell? ⟨gb247,2,none⟩ = some (.slice A0_2 l0_2.length c0_2):=(zD BK247.out 2).trans rfl;have hcz24_3 : wr.cell? ⟨gb247,3,none⟩ = some (.slice A0_3 l0_3.length c0_3):=(zD BK247.out 3).trans rfl;have hfz24_0:=zE BK247.out 0;have hfz24_1:=zE BK247.out 1;have hfz24_2:=zE BK247.out 2;have hfz24_3:=zE BK247.out 3;have p248 : 0 ≤ (x33_2 : Int):=of_decide_eq_true (by first|(with_reducible assumption)|assumption)
              have q248 : x33_2 < (l0_0.length : Int):=of_decide_eq_true (by first|(with_reducible assumption)|assumption)
              obtain ⟨ad248,e248,hx248_0⟩:=Kd.at_int HR0_0.out x33_2 p248 q248;cases e248;replace hx248_0:=(HB.out.cell (World.block_lt_of_cell? w _ hx248_0)).trans hx248_0;replace p248:=eq_true p248;replace q248:=eq_true q248;have p249 : 0 ≤ (x33_2 : Int):=of_decide_eq_true (by first|(with_reducible assumption)|assumption)
              have q249 : x33_2 < (l0_0.length : Int):=of_decide_eq_true (by first|(with_reducible assumption)|assumption)
              obtain ⟨ad249,e249,hx249_0⟩:=Kd.at_int HR0_0.out x33_2 p249 q249;obtain rfl : ad248 = ad249:=(by injection e249)
              replace hx249_0:=(HB.out.cell (World.block_lt_of_cell? w _ hx249_0)).trans hx249_0;replace p249:=eq_true p249;replace q249:=eq_true q249;have p250 : 0 ≤ (x33_2 : Int):=of_decide_eq_true (by first|(with_reducible assumption)|assumption)
              have q250 : x33_2 < (l0_1.length : Int):=of_decide_eq_true (by first|(with_reducible assumption)|assumption)
              obtain ⟨ad250,e250,hx250_0⟩:=Kd.at_int HR0_1.out x33_2 p250 q250;cases e250;replace hx250_0:=(HB.out.cell (World.block_lt_of_cell? w _ hx250_0)).trans hx250_0;replace p250:=eq_true p250;replace q250:=eq_true q250;have p251 : 0 ≤ (x33_2 : Int):=of_decide_eq_true (by first|(with_reducible assumption)|assumption)
              have q251 : x33_2 < (l0_1.length : Int):=of_decide_eq_true (by first|(with_reducible assumption)|assumption)
              obtain ⟨ad251,e251,hx251_0⟩:=Kd.at_int HR0_1.out x33_2 p251 q251;obtain rfl : ad250 = ad251:=(by injection e251)
              replace hx251_0:=(HB.out.cell (World.block_lt_of_cell? w _ hx251_0)).trans hx251_0;replace p251:=eq_true p251;replace q251:=eq_true q251;go_wp2;go_roundg k2
              case measure=>have:=HJ1.out;have:=HK2.out;omega
              case rel=>exact ⟨(wrap64 (x33_2 + 1)),(by first|rfl|(simp;done)|(simp [*];done)),H',⟨by have:=HJ1.out;have:=HK2.out;omega⟩,⟨by (with_reducible repeat (first|refine zH ?_ _|refine zI ?_|refine zG ?_ _));exact BK247.out⟩,⟨by repeat (first|(with_reducible first|exact HB.out|apply zA|apply zB|apply zC|refine zF ?_ GE247.out)|exact HB.out)⟩⟩
           ·rw [if_neg c19] at H;exact absurd H (by simp)
        ·rw [if_neg c14] at H;exact absurd H (by simp)
       ·rw [if_neg c13] at H;exact absurd H (by simp)
      ·rw [if_neg c12] at H;have c12b0 : decide (x33_2 < (l0_0.length : Int)) = false:=decide_eq_false c12;clear c12;have H':=zm H;clear H;go_wp2;go_loopg [69] k2 (fun kq v69 w'=>∃ (x69_3 : Int),v69 = .int .i64 x69_3∧Aside0 (impl_RowOk.l1 kq (l0_0.length : Int) x69_3 l0_0 l0_1 l0_2 l0_3 = some r)∧Aside0 (kq ≤ k2)∧Aside0 (w'.heap[gb247]? = some (.cells #[(.slice A0_0 l0_0.length c0_0),(.slice A0_1 l0_1.length c0_1),(.slice A0_2 l0_2.length c0_2),(.slice A0_3 l0_3.length c0_3)] 30 (0,0)))∧Aside0 (Below w.heap.size w w'))
       case atStart=>exact ⟨(0),(by first|rfl|(simp;done)|(simp [*];done)),H',⟨Nat.le_refl _⟩,⟨by (with_reducible repeat (first|refine zH ?_ _|refine zI ?_|refine zG ?_ _));exact BK247.out⟩,⟨by repeat (first|(with_reducible first|exact HB.out|apply zA|apply zB|apply zC|refine zF ?_ GE247.out)|exact HB.out)⟩⟩
       case round =>
        clear H';(try clear c1);(try clear c2);(try clear p2);(try clear q2);(try clear hx2);(try clear c4);(try clear c5);(try clear c5b0);(try clear c5b1);(try clear c6);(try clear c6b0);(try clear c6b1);(try clear c6b2);(try clear p6);(try clear c7);(try clear c7b0);(try clear c7b1);(try clear c7b2);(try clear c11);(try clear c12);(try clear c12b0);(try clear c13);(try clear c13b0);(try clear c14);(try clear c14b0);(try clear c15);(try clear c15b0);(try clear c17);(try clear c17b0);(try clear c19);(try clear c19b0);(try clear c20);(try clear c20b0);(try clear c22);(try clear c22b0);(try clear p24);(try clear q24);(try clear hx24);(try clear hcz10_0);(try clear hcz10_1);(try clear hcz10_2);(try clear hcz10_3);(try clear hcz16_0);(try clear hcz16_1);(try clear hcz16_2);(try clear hcz16_3);(try clear hcz18_0);(try clear hcz18_1);(try clear hcz18_2);(try clear hcz18_3);(try clear hcz21_0);(try clear hcz21_1);(try clear hcz21_2);(try clear hcz21_3);(try clear hcz23_0);(try clear hcz23_1);(try clear hcz23_2);(try clear hcz23_3);(try clear hcz24_0);(try clear hcz24_1);(try clear hcz24_2);(try clear hcz24_3);(try clear hcz4_0);(try clear hcz4_1);(try clear hcz4_2);(try clear hcz4_3);(try clear hcz8_0);(try clear hcz8_1);(try clear hcz8_2);(try clear hcz8_3);(try clear hcz9_0);(try clear hcz9_1);(try clear hcz9_2);(try clear hcz9_3);(try clear hfz10_0);(try clear hfz10_1);(try clear hfz10_2);(try clear hfz10_3);(try clear hfz16_0);(try clear hfz16_1);(try clear hfz16_2);(try clear hfz16_3);(try clear hfz18_0);(try clear hfz18_1);(try clear hfz18_2);(try clear hfz18_3);(try clear hfz21_0);(try clear hfz21_1);(try clear hfz21_2);(try clear hfz21_3);(try clear hfz23_0);(try clear hfz23_1);(try clear hfz23_2);(try clear hfz23_3);(try clear hfz24_0);(try clear hfz24_1);(try clear hfz24_2);(try clear hfz24_3);(try clear hfz4_0);(try clear hfz4_1);(try clear hfz4_2);(try clear hfz4_3);(try clear hfz8_0);(try clear hfz8_1);(try clear hfz8_2);(try clear hfz8_3);(try clear hfz9_0);(try clear hfz9_1);(try clear hfz9_2);(try clear hfz9_3);(try clear hx248_0);(try clear hx249_0);(try clear hx250_0);(try clear hx251_0);(try clear p2);(try clear p248);(try clear p249);(try clear p250);(try clear p251);(try clear q248);(try clear q249);(try clear q250);(try clear q251);obtain ⟨x69_3,rfl,HA,HK3,BK247,HB⟩:=hrel;cases gk with
        | zero=>exact absurd HA.out (by simp [impl_RowOk.l1])
        | succ k3 =>
         have H:=HA.out;clear HA;simp only [impl_RowOk.l1] at H
         by_cases c25 : x69_3 < (l0_0.length : Int)
         ·rw [if_pos c25] at H;have c25b0 : decide (x69_3 < (l0_0.length : Int)) = true:=decide_eq_true c25;clear c25;by_cases c26 : 0 ≤ x69_3
          ·rw [if_pos c26] at H;have c26b0 : decide (0 ≤ x69_3) = true:=decide_eq_true c26;clear c26;by_cases c27 : x69_3 < (l0_3.length : Int)
           ·rw [if_pos c27] at H;have c27b0 : decide (x69_3 < (l0_3.length : Int)) = true:=decide_eq_true c27;clear c27;by_cases c28 : ((rd_L1 l0_3 x69_3).length : Int) = 4
            ·rw [if_pos c28] at H;have c28b0 : (((rd_L1 l0_3 x69_3).length : Int) == 4) = true:=beq_iff_eq.mpr c28;have c28b1 : (((rd_L1 l0_3 x69_3).length : Int) != 4) = false:=bne_eq_false_iff_eq.mpr c28;clear c28;have H':=zm H;clear H;have hcz29_0 : wr.cell? ⟨gb247,0,none⟩ = some (.slice A0_0 l0_0.length c0_0):=(zD BK247.out 0).trans rfl;have hcz29_1 : wr.cell? ⟨gb247,1,none⟩ = some (.slice A0_1 l0_1.length c0_1):=(zD BK247.out 1).trans rfl;have hcz29_2 : wr.cell? ⟨gb247,2,none⟩ = some (.slice A0_2 l0_2.length c0_2):=(zD BK247.out 2).trans rfl;have hcz29_3 : wr.cell? ⟨gb247,3,none⟩ = some (.slice A0_3 l0_3.length c0_3):=(zD BK247.out 3).trans rfl;have hfz29_0:=zE BK247.out 0;have hfz29_1:=zE BK247.out 1;have hfz29_2:=zE BK247.out 2;have hfz29_3:=zE BK247.out 3;have p252 : 0 ≤ (x69_3 : Int):=of_decide_eq_true (by first|(with_reducible assumption)|assumption)
             have q252 : x69_3 < (l0_3.length : Int):=of_decide_eq_true (by first|(with_reducible assumption)|assumption)
             obtain ⟨ad252,A252_0,c252_0,e252,hx252_0,hl252_0,hi252_0⟩:=at_L1 HR0_3.out x69_3 p252 q252;cases e252;replace hx252_0:=(HB.out.cell (World.block_lt_of_cell? w _ hx252_0)).trans hx252_0;have HR252_0:=zm hi252_0;have HC252_0:=zm hl252_0;clear hi252_0 hl252_0;replace p252:=eq_true p252;replace q252:=eq_true q252;go_wp2;go_roundg k3
             case measure=>have:=HJ1.out;have:=HK2.out;have:=HK3.out;omega
             case rel=>exact ⟨(wrap64 (x69_3 + 1)),(by first|rfl|(simp;done)|(simp [*];done)),H',⟨by have:=HJ1.out;have:=HK2.out;have:=HK3.out;omega⟩,⟨by (with_reducible repeat (first|refine zH ?_ _|refine zI ?_|refine zG ?_ _));exact BK247.out⟩,⟨by repeat (first|(with_reducible first|exact HB.out|apply zA|apply zB|apply zC|refine zF ?_ GE247.out)|exact HB.out)⟩⟩
            ·rw [if_neg c28] at H;have c28b0 : (((rd_L1 l0_3 x69_3).length : Int) == 4) = false:=beq_eq_false_iff_ne.mpr c28;have c28b1 : (((rd_L1 l0_3 x69_3).length : Int) != 4) = true:=bne_iff_ne.mpr c28;obtain rfl:=Option.some.inj H;have hcz30_0 : wr.cell? ⟨gb247,0,none⟩ = some (.slice A0_0 l0_0.length c0_0):=(zD BK247.out 0).trans rfl;have hcz30_1 : wr.cell? ⟨gb247,1,none⟩ = some (.slice A0_1 l0_1.length c0_1):=(zD BK247.out 1).trans rfl;have hcz30_2 : wr.cell? ⟨gb247,2,none⟩ = some (.slice A0_2 l0_2.length c0_2):=(zD BK247.out 2).trans rfl;have hcz30_3 : wr.cell? ⟨gb247,3,none⟩ = some (.slice A0_3 l0_3.length c0_3):=(zD BK247.out 3).trans rfl;have hfz30_0:=zE BK247.out 0;have hfz30_1:=zE BK247.out 1;have hfz30_2:=zE BK247.out 2;have hfz30_3:=zE BK247.out 3;have p252 : 0 ≤ (x69_3 : Int):=of_decide_eq_true (by first|(with_reducible assumption)|assumption)
             have q252 : x69_3 < (l0_3.length : Int):=of_decide_eq_true (by first|(with_reducible assumption)|assumption)
             obtain ⟨ad252,A252_0,c252_0,e252,hx252_0,hl252_0,hi252_0⟩:=at_L1 HR0_3.out x69_3 p252 q252;cases e252;replace hx252_0:=(HB.out.cell (World.block_lt_of_cell? w _ hx252_0)).trans hx252_0;have HR252_0:=zm hi252_0;have HC252_0:=zm hl252_0;clear hi252_0 hl252_0;replace p252:=eq_true p252;replace q252:=eq_true q252;go_wp2;go_ret
             exact ⟨by first|rfl|(simp [errW_none,errW_some] <;> rfl)|(simp [*,errW_none,errW_some] <;> rfl),by repeat (first|(with_reducible first|exact HB.out|apply zA|apply zB|apply zC|refine zF ?_ GE247.out)|exact HB.out)⟩
           ·rw [if_neg c27] at H;exact absurd H (by simp)
          ·rw [if_neg c26] at H;exact absurd H (by simp)
         ·rw [if_neg c25] at H;have c25b0 : decide (x69_3 < (l0_0.length : Int)) = false:=decide_eq_false c25;clear c25;obtain rfl:=Option.some.inj H;go_wp2;go_ret
          exact ⟨by first|rfl|(simp [errW_none,errW_some] <;> rfl)|(simp [*,errW_none,errW_some] <;> rfl),by repeat (first|(with_reducible first|exact HB.out|apply zA|apply zB|apply zC|refine zF ?_ GE247.out)|exact HB.out)⟩

end Go.Proofs.Ytpdcghclcgbcfab.X
