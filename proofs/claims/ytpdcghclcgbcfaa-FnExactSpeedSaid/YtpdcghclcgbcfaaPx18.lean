-- written by a program of this session (after the kit's print), not trusted: Lean checks it
import Derived.Test.YtpdcghclcgbcfaaPx0
import Derived.Test.YtpdcghclcgbcfaaPx4
import Derived.Test.YtpdcghclcgbcfaaPx14
namespace Go.Proofs.Ytpdcghclcgbcfaa.P
open Go.RowKit Go.Proofs.YtpdcghclcgbcfaaW.PrintWords Go.Proofs.YtpdcghclcgbcfaaW.PrintLast Go.Proofs.YtpdcghclcgbcfaaW.PrintMore
open Go.Proofs.YtpdcghclcgbcfaaW.PrintWords renaming below_alloc → zA, below_drew1 → zC, below_set → zF, below_size → zJ, below_step → zK, blk_alloc → zG, blk_below → zL, blk_cell → zD, blk_drew → zI, blk_drewN → zH, blk_frozen → zE, box_event → zN, gate_dst → zM, pw_below_drewN → zB
open Go.Proofs.YtpdcghclcgbcfaaW.PrintWords.Kd renaming C_alloc → zT, C_below → zY, C_drew → zV, C_drewN → zU, R_lower → zZ, R_reads' → zW, R_slice → zAb
open Go.Proofs.YtpdcghclcgbcfaaW.PrintWords.Aside0 renaming mk → zm
attribute [local go_sem] max2_int min2_int max_two min_two max_three min_three max_four min_four   -- for this text's walks alone
set_option linter.unusedVariables false
set_option linter.unusedSimpArgs false

/-! ### spec_Room: function 41 -/
mutual
def spec_Room.j0 : Nat→Int→Bool→List Int→List Int→List Bool→List (List Bool)→Option (Int)
 | 0,_,_,_,_,_,_=>none
 | k + 1,x1,x21,x374000,x374001,x374002,x374003=>if x21 = true then (some (-1)) else ((spec_l2both.f k x374000 x374001 x374002 x374003).bind fun bt376=>(if 0 ≤ x1 then (if x1 < (bt376.2.length : Int) then (spec_Room.l0 k 0 x1 (rd bt376.2 x1) x374000 x374001 x374002 x374003) else (none)) else (none)))
def spec_Room.l0 : Nat→Int→Int→Int→List Int→List Int→List Bool→List (List Bool)→Option (Int)
 | 0,_,_,_,_,_,_,_=>none
 | k + 1,x7,x8,x9,x374000,x374001,x374002,x374003=>if x9 > 0 then (if x8 ≥ 0 then (if 0 ≤ x8 then (if x8 < (x374001.length : Int) then (if x8 < (x374000.length : Int) then (spec_Room.l0 k (wrap64 (x7 + (rd x374001 x8))) (rd x374000 x8) (wrap64 (x9 - 1)) x374000 x374001 x374002 x374003) else (none)) else (none)) else (none)) else (some x7)) else (some x7)
end
def spec_Room.f (k : Nat) (l0_0 : List Int) (l0_1 : List Int) (l0_2 : List Bool) (l0_3 : List (List Bool)) (a1 : Int) : Option (Int):=(spec_RowOk.f k l0_0 l0_1 l0_2 l0_3).bind fun t374=>(if t374 = 0 then ((spec_l1in.f a1 0 (wrap64 ((l0_0.length : Int) - 1))).bind fun t375=>(spec_Room.j0 k a1 (!t375) l0_0 l0_1 l0_2 l0_3)) else (spec_Room.j0 k a1 true l0_0 l0_1 l0_2 l0_3))
theorem spec_Room.mono_l : ∀ k,(∀ y0 y1 y2 y3 y4 y5,LeO (spec_Room.j0 k y0 y1 y2 y3 y4 y5) (spec_Room.j0 (k + 1) y0 y1 y2 y3 y4 y5))∧(∀ y0 y1 y2 y3 y4 y5 y6,LeO (spec_Room.l0 k y0 y1 y2 y3 y4 y5 y6) (spec_Room.l0 (k + 1) y0 y1 y2 y3 y4 y5 y6))
 | 0=>⟨fun _ _ _ _ _ _ r h=>by simp [spec_Room.j0] at h,fun _ _ _ _ _ _ _ r h=>by simp [spec_Room.l0] at h⟩
 | k + 1=>by
  obtain ⟨ih0,ih1⟩:=spec_Room.mono_l k;refine ⟨?_,?_⟩
  ·intro y0 y1 y2 y3 y4 y5
   unfold spec_Room.j0
   repeat' first
   | (with_reducible exact ih0 _ _ _ _ _ _)
   | (with_reducible exact ih1 _ _ _ _ _ _ _)
   | (with_reducible exact spec_RowOk.mono _ _ _ _ _)
   | (with_reducible exact spec_l2both.mono _ _ _ _ _)
   | (with_reducible exact LeO.refl _)
   | (with_reducible exact LeO.none _)
   | (with_reducible refine LeO.ite ?_ ?_)
   | (with_reducible refine LeO.bind ?_ (fun _=>?_))
   | exact ih0 _ _ _ _ _ _
   | exact ih1 _ _ _ _ _ _ _
   | exact spec_RowOk.mono _ _ _ _ _
   | exact spec_l2both.mono _ _ _ _ _
   | exact LeO.none _
   | refine LeO.ite ?_ ?_
   | refine LeO.bind ?_ (fun _=>?_)
  ·intro y0 y1 y2 y3 y4 y5 y6
   unfold spec_Room.l0
   repeat' first
   | (with_reducible exact ih0 _ _ _ _ _ _)
   | (with_reducible exact ih1 _ _ _ _ _ _ _)
   | (with_reducible exact spec_RowOk.mono _ _ _ _ _)
   | (with_reducible exact spec_l2both.mono _ _ _ _ _)
   | (with_reducible exact LeO.refl _)
   | (with_reducible exact LeO.none _)
   | (with_reducible refine LeO.ite ?_ ?_)
   | (with_reducible refine LeO.bind ?_ (fun _=>?_))
   | exact ih0 _ _ _ _ _ _
   | exact ih1 _ _ _ _ _ _ _
   | exact spec_RowOk.mono _ _ _ _ _
   | exact spec_l2both.mono _ _ _ _ _
   | exact LeO.none _
   | refine LeO.ite ?_ ?_
   | refine LeO.bind ?_ (fun _=>?_)
theorem spec_Room.mono : ∀ a0 a1 a2 a3 a4 k,LeO (spec_Room.f k a0 a1 a2 a3 a4) (spec_Room.f (k + 1) a0 a1 a2 a3 a4):=by
 intro a0 a1 a2 a3 a4 k
 obtain ⟨ih0,ih1⟩:=spec_Room.mono_l k;unfold spec_Room.f
 repeat' first
   | (with_reducible exact ih0 _ _ _ _ _ _)
   | (with_reducible exact ih1 _ _ _ _ _ _ _)
   | (with_reducible exact spec_RowOk.mono _ _ _ _ _)
   | (with_reducible exact spec_l2both.mono _ _ _ _ _)
   | (with_reducible exact LeO.refl _)
   | (with_reducible exact LeO.none _)
   | (with_reducible refine LeO.ite ?_ ?_)
   | (with_reducible refine LeO.bind ?_ (fun _=>?_))
   | exact ih0 _ _ _ _ _ _
   | exact ih1 _ _ _ _ _ _ _
   | exact spec_RowOk.mono _ _ _ _ _
   | exact spec_l2both.mono _ _ _ _ _
   | exact LeO.none _
   | refine LeO.ite ?_ ?_
   | refine LeO.bind ?_ (fun _=>?_)
set_option maxHeartbeats 8000000 in
set_option maxRecDepth 100000 in
theorem spec_Room.calls (k : Nat) (A0_0 : Option Addr) (c0_0 : Nat) (l0_0 : List Int) (A0_1 : Option Addr) (c0_1 : Nat) (l0_1 : List Int) (A0_2 : Option Addr) (c0_2 : Nat) (l0_2 : List Bool) (A0_3 : Option Addr) (c0_3 : Nat) (l0_3 : List (List Bool)) (a1 : Int) (r : Int) (w : World) (hr0_0 : Kd.C (Kd.int .i64) w A0_0 l0_0.length l0_0) (hc0_0 : l0_0.length ≤ c0_0) (hr0_1 : Kd.C (Kd.int .i64) w A0_1 l0_1.length l0_1) (hc0_1 : l0_1.length ≤ c0_1) (hr0_2 : Kd.C Kd.bool w A0_2 l0_2.length l0_2) (hc0_2 : l0_2.length ≤ c0_2) (hr0_3 : Kd.C (Kd.slice 4 Kd.bool) w A0_3 l0_3.length l0_3) (hc0_3 : l0_3.length ≤ c0_3) (h : spec_Room.f k l0_0 l0_1 l0_2 l0_3 a1 = some r) :
  Calls Try.prog 41 #[.agg #[.slice A0_0 l0_0.length c0_0,.slice A0_1 l0_1.length c0_1,.slice A0_2 l0_2.length c0_2,.slice A0_3 l0_3.length c0_3],.int .i64 a1] w fun e w'=>e = .returned (.int .i64 r)∧Below w.heap.size w w':=by
 have hu27:=Try.underlying27;have HR0_0:=zm hr0_0;have HC0_0:=zm hc0_0;clear hr0_0 hc0_0;have HR0_1:=zm hr0_1;have HC0_1:=zm hc0_1;clear hr0_1 hc0_1;have HR0_2:=zm hr0_2;have HC0_2:=zm hc0_2;clear hr0_2 hc0_2;have HR0_3:=zm hr0_3;have HC0_3:=zm hc0_3;clear hr0_3 hc0_3;have HB:=zm (Below.refl w.heap.size w);have H : ((spec_RowOk.f k l0_0 l0_1 l0_2 l0_3).bind fun t374=>(if t374 = 0 then ((spec_l1in.f a1 0 (wrap64 ((l0_0.length : Int) - 1))).bind fun t375=>(spec_Room.j0 k a1 (!t375) l0_0 l0_1 l0_2 l0_3)) else (spec_Room.j0 k a1 true l0_0 l0_1 l0_2 l0_3))) = some r:=h
 clear h;have HC3:=zm H;clear H;go_enter Try.func41,Try.ntmps41
 go_upto_region 1 with (first|((with_reducible refine zM (N:=2) rfl ?_);(try (refine gate_guard (by rfl) ?_;dsimp only));refine zN ?hg (N:=2) ?hd (cs:=#[.slice A0_0 l0_0.length c0_0,.slice A0_1 l0_1.length c0_1,.slice A0_2 l0_2.length c0_2,.slice A0_3 l0_3.length c0_3]) (t:=27) ?hr ?_;(case hd=>rfl);(case hg=>rfl);(case hr=>first|(go_simp;done)|(go_simp;rfl));intro gb373 hg w4 hbox hb;have n0_:=zm (zK (by repeat (first|(with_reducible first|exact HB.out|apply zA|apply zB|apply zC)|exact HB.out)) hb);have n1_:=zm (hbox);have n2_:=zm ((by rw [hg];exact (zJ (by repeat (first|(with_reducible first|exact HB.out|apply zA|apply zB|apply zC)|exact HB.out))) : w.heap.size ≤ gb373));have n3_:=zm ((by rw [hg];exact (zJ (by repeat (first|(with_reducible first|exact HB.out|apply zA|apply zB|apply zC)|exact HB.out))) : w.heap.size ≤ gb373));clear HB;have HB:=n0_;have BK373:=n1_;have GW373:=n2_;have GE373:=n3_;clear n0_ n1_ n2_ n3_;clear hb hbox hg))
 (try simp only [Act.put,List.setIfInBounds_toArray,List.set_cons_zero,List.set_cons_succ]);go_cut [21] (fun v21 wc=>∃ (kq : Nat) (x21_2 : Bool),v21 = .bool x21_2∧Aside0 (spec_Room.j0 kq a1 x21_2 l0_0 l0_1 l0_2 l0_3 = some r)∧Aside0 (kq ≤ k)∧Aside0 (wc.heap[gb373]? = some (.cells #[(.slice A0_0 l0_0.length c0_0),(.slice A0_1 l0_1.length c0_1),(.slice A0_2 l0_2.length c0_2),(.slice A0_3 l0_3.length c0_3)] 27 (0,0)))∧Aside0 (Below w.heap.size w wc))
 case first =>
  have H:=HC3.out;clear HC3;replace H:=Option.bind_eq_some_iff.mp H;obtain ⟨t374,A50,H⟩:=H;replace H : (if t374 = 0 then ((spec_l1in.f a1 0 (wrap64 ((l0_0.length : Int) - 1))).bind fun t375=>(spec_Room.j0 k a1 (!t375) l0_0 l0_1 l0_2 l0_3)) else (spec_Room.j0 k a1 true l0_0 l0_1 l0_2 l0_3)) = some r:=H
  have A5:=zm A50;clear A50;by_cases c6 : t374 = 0
  ·rw [if_pos c6] at H;have c6b0 : (t374 == 0) = true:=beq_iff_eq.mpr c6;have c6b1 : (t374 != 0) = false:=bne_eq_false_iff_eq.mpr c6;clear c6;(first|rw [c6b0]|(simp only [i64_w,i32_w];rw [c6b0])|skip)
   replace H:=Option.bind_eq_some_iff.mp H;obtain ⟨t375,A70,H⟩:=H;replace H : (spec_Room.j0 k a1 (!t375) l0_0 l0_1 l0_2 l0_3) = some r:=H;have A7:=zm A70;clear A70;have H':=zm H;clear H;have hcz8_0 : w4.cell? ⟨gb373,0,none⟩ = some (.slice A0_0 l0_0.length c0_0):=(zD BK373.out 0).trans rfl;have hcz8_1 : w4.cell? ⟨gb373,1,none⟩ = some (.slice A0_1 l0_1.length c0_1):=(zD BK373.out 1).trans rfl;have hcz8_2 : w4.cell? ⟨gb373,2,none⟩ = some (.slice A0_2 l0_2.length c0_2):=(zD BK373.out 2).trans rfl;have hcz8_3 : w4.cell? ⟨gb373,3,none⟩ = some (.slice A0_3 l0_3.length c0_3):=(zD BK373.out 3).trans rfl;have hfz8_0:=zE BK373.out 0;have hfz8_1:=zE BK373.out 1;have hfz8_2:=zE BK373.out 2;have hfz8_3:=zE BK373.out 3;go_wp2_with (first|((with_reducible refine gate_callee (f:=23) rfl ?_);refine goesL_ (some 11) rfl rfl Try.func23 (by kernel_rfl) rfl #[.agg #[.slice A0_0 l0_0.length c0_0,.slice A0_1 l0_1.length c0_1,.slice A0_2 l0_2.length c0_2,.slice A0_3 l0_3.length c0_3]] rfl (by (try simp only [List.map_toArray,List.map_cons,List.map_nil]);first|done|rfl|(simp only [List.length_drop,List.length_take];rfl)) ?_;(with_reducible refine (spec_RowOk.calls k _ _ l0_0 _ _ l0_1 _ _ l0_2 _ _ l0_3 t374 _ ?side1 ?side2 ?side3 ?side4 ?side5 ?side6 ?side7 ?side8 A5.out).mono ?_);(case side1=>repeat (first|exact (zY HR0_0.out HB.out)|(with_reducible refine zT ?_ _)|(with_reducible refine zU ?_ _)|(with_reducible refine zV ?_)));(case side2=>exact HC0_0.out);(case side3=>repeat (first|exact (zY HR0_1.out HB.out)|(with_reducible refine zT ?_ _)|(with_reducible refine zU ?_ _)|(with_reducible refine zV ?_)));(case side4=>exact HC0_1.out);(case side5=>repeat (first|exact (zY HR0_2.out HB.out)|(with_reducible refine zT ?_ _)|(with_reducible refine zU ?_ _)|(with_reducible refine zV ?_)));(case side6=>exact HC0_2.out);(case side7=>repeat (first|exact (zY HR0_3.out HB.out)|(with_reducible refine zT ?_ _)|(with_reducible refine zU ?_ _)|(with_reducible refine zV ?_)));(case side8=>exact HC0_3.out);rintro e w9 ⟨rfl,hb⟩;refine ⟨_,rfl,?_⟩;have n0_:=zm (zL (g:=gb373) (o:=.cells #[.slice A0_0 l0_0.length c0_0,.slice A0_1 l0_1.length c0_1,.slice A0_2 l0_2.length c0_2,.slice A0_3 l0_3.length c0_3] 27 (0,0)) (by (with_reducible repeat (first|refine zH ?_ _|refine zI ?_|refine zG ?_ _));exact BK373.out) hb);have n1_:=zm (zK (by repeat (first|(with_reducible first|exact HB.out|apply zA|apply zB|apply zC|refine zF ?_ GE373.out)|exact HB.out)) hb);clear BK373;clear HB;have BK373:=n0_;have HB:=n1_;clear n0_ n1_;(try clear hb);(try clear hb2);(try clear hk);(try clear hi);have hcz10_0 : w9.cell? ⟨gb373,0,none⟩ = some (.slice A0_0 l0_0.length c0_0):=(zD BK373.out 0).trans rfl;have hcz10_1 : w9.cell? ⟨gb373,1,none⟩ = some (.slice A0_1 l0_1.length c0_1):=(zD BK373.out 1).trans rfl;have hcz10_2 : w9.cell? ⟨gb373,2,none⟩ = some (.slice A0_2 l0_2.length c0_2):=(zD BK373.out 2).trans rfl;have hcz10_3 : w9.cell? ⟨gb373,3,none⟩ = some (.slice A0_3 l0_3.length c0_3):=(zD BK373.out 3).trans rfl;have hfz10_0:=zE BK373.out 0;have hfz10_1:=zE BK373.out 1;have hfz10_2:=zE BK373.out 2;have hfz10_3:=zE BK373.out 3)|(go_at_call 52;(with_reducible refine (spec_l1in.calls a1 0 (wrap64 ((l0_0.length : Int) - 1)) t375 _ A7.out).mono ?_);rintro e w' ⟨rfl,⟨nd,rfl⟩⟩))
   go_meet
   case rel=>exact ⟨_,(!t375),(by first|rfl|(simp;done)|(simp [*];done)),H',⟨by first|omega|exact Nat.le_refl _⟩,⟨by (with_reducible repeat (first|refine zH ?_ _|refine zI ?_|refine zG ?_ _));exact BK373.out⟩,⟨by repeat (first|(with_reducible first|exact HB.out|apply zA|apply zB|apply zC|refine zF ?_ GE373.out)|exact HB.out)⟩⟩
  ·rw [if_neg c6] at H;have c6b0 : (t374 == 0) = false:=beq_eq_false_iff_ne.mpr c6;have c6b1 : (t374 != 0) = true:=bne_iff_ne.mpr c6;(first|rw [c6b0]|(simp only [i64_w,i32_w];rw [c6b0])|skip)
   have H':=zm H;clear H;have hcz11_0 : w4.cell? ⟨gb373,0,none⟩ = some (.slice A0_0 l0_0.length c0_0):=(zD BK373.out 0).trans rfl;have hcz11_1 : w4.cell? ⟨gb373,1,none⟩ = some (.slice A0_1 l0_1.length c0_1):=(zD BK373.out 1).trans rfl;have hcz11_2 : w4.cell? ⟨gb373,2,none⟩ = some (.slice A0_2 l0_2.length c0_2):=(zD BK373.out 2).trans rfl;have hcz11_3 : w4.cell? ⟨gb373,3,none⟩ = some (.slice A0_3 l0_3.length c0_3):=(zD BK373.out 3).trans rfl;have hfz11_0:=zE BK373.out 0;have hfz11_1:=zE BK373.out 1;have hfz11_2:=zE BK373.out 2;have hfz11_3:=zE BK373.out 3;go_wp2_with (first|((with_reducible refine gate_callee (f:=23) rfl ?_);refine goesL_ (some 11) rfl rfl Try.func23 (by kernel_rfl) rfl #[.agg #[.slice A0_0 l0_0.length c0_0,.slice A0_1 l0_1.length c0_1,.slice A0_2 l0_2.length c0_2,.slice A0_3 l0_3.length c0_3]] rfl (by (try simp only [List.map_toArray,List.map_cons,List.map_nil]);first|done|rfl|(simp only [List.length_drop,List.length_take];rfl)) ?_;(with_reducible refine (spec_RowOk.calls k _ _ l0_0 _ _ l0_1 _ _ l0_2 _ _ l0_3 t374 _ ?side1 ?side2 ?side3 ?side4 ?side5 ?side6 ?side7 ?side8 A5.out).mono ?_);(case side1=>repeat (first|exact (zY HR0_0.out HB.out)|(with_reducible refine zT ?_ _)|(with_reducible refine zU ?_ _)|(with_reducible refine zV ?_)));(case side2=>exact HC0_0.out);(case side3=>repeat (first|exact (zY HR0_1.out HB.out)|(with_reducible refine zT ?_ _)|(with_reducible refine zU ?_ _)|(with_reducible refine zV ?_)));(case side4=>exact HC0_1.out);(case side5=>repeat (first|exact (zY HR0_2.out HB.out)|(with_reducible refine zT ?_ _)|(with_reducible refine zU ?_ _)|(with_reducible refine zV ?_)));(case side6=>exact HC0_2.out);(case side7=>repeat (first|exact (zY HR0_3.out HB.out)|(with_reducible refine zT ?_ _)|(with_reducible refine zU ?_ _)|(with_reducible refine zV ?_)));(case side8=>exact HC0_3.out);rintro e w12 ⟨rfl,hb⟩;refine ⟨_,rfl,?_⟩;have n0_:=zm (zL (g:=gb373) (o:=.cells #[.slice A0_0 l0_0.length c0_0,.slice A0_1 l0_1.length c0_1,.slice A0_2 l0_2.length c0_2,.slice A0_3 l0_3.length c0_3] 27 (0,0)) (by (with_reducible repeat (first|refine zH ?_ _|refine zI ?_|refine zG ?_ _));exact BK373.out) hb);have n1_:=zm (zK (by repeat (first|(with_reducible first|exact HB.out|apply zA|apply zB|apply zC|refine zF ?_ GE373.out)|exact HB.out)) hb);clear BK373;clear HB;have BK373:=n0_;have HB:=n1_;clear n0_ n1_;(try clear hb);(try clear hb2);(try clear hk);(try clear hi)))
   go_meet
   case rel=>exact ⟨_,(true),(by first|rfl|(simp;done)|(simp [*];done)),H',⟨by first|omega|exact Nat.le_refl _⟩,⟨by (with_reducible repeat (first|refine zH ?_ _|refine zI ?_|refine zG ?_ _));exact BK373.out⟩,⟨by repeat (first|(with_reducible first|exact HB.out|apply zA|apply zB|apply zC|refine zF ?_ GE373.out)|exact HB.out)⟩⟩
 case rest =>
  clear HC3;(try clear c2);(try clear p2);(try clear c4);(try clear c6);(try clear c6b0);(try clear c6b1);(try clear p6);(try clear hcz10_0);(try clear hcz10_1);(try clear hcz10_2);(try clear hcz10_3);(try clear hcz11_0);(try clear hcz11_1);(try clear hcz11_2);(try clear hcz11_3);(try clear hcz8_0);(try clear hcz8_1);(try clear hcz8_2);(try clear hcz8_3);(try clear hfz10_0);(try clear hfz10_1);(try clear hfz10_2);(try clear hfz10_3);(try clear hfz11_0);(try clear hfz11_1);(try clear hfz11_2);(try clear hfz11_3);(try clear hfz8_0);(try clear hfz8_1);(try clear hfz8_2);(try clear hfz8_3);obtain ⟨kq,x21_2,rfl,HA,HJ2,BK373,HB⟩:=hcut;cases kq with
  | zero=>exact absurd HA.out (by simp [spec_Room.j0])
  | succ kj2 =>
   have H:=HA.out;clear HA;simp only [spec_Room.j0] at H
   by_cases c13 : x21_2 = true
   ·subst c13
    have H1 : (some (-1)) = some r:=by rw [if_pos rfl] at H;exact H
    clear H;have H:=H1;clear H1;obtain rfl:=Option.some.inj H;go_wp2;go_ret
    exact ⟨by first|rfl|(simp [errW_none,errW_some] <;> rfl)|(simp [*,errW_none,errW_some] <;> rfl),by repeat (first|(with_reducible first|exact HB.out|apply zA|apply zB|apply zC|refine zF ?_ GE373.out)|exact HB.out)⟩
   ·replace c13:=Bool.eq_false_iff.mpr c13;subst c13
    have H1 : ((spec_l2both.f kj2 l0_0 l0_1 l0_2 l0_3).bind fun bt376=>(if 0 ≤ a1 then (if a1 < (bt376.2.length : Int) then (spec_Room.l0 kj2 0 a1 (rd bt376.2 a1) l0_0 l0_1 l0_2 l0_3) else (none)) else (none))) = some r:=by rw [if_neg (show ¬ (false = true) by decide)] at H;exact H
    clear H;have H:=H1;clear H1;replace H:=Option.bind_eq_some_iff.mp H;obtain ⟨⟨t376,t379⟩,A140,H⟩:=H;replace H : (if 0 ≤ a1 then (if a1 < (t379.length : Int) then (spec_Room.l0 kj2 0 a1 (rd t379 a1) l0_0 l0_1 l0_2 l0_3) else (none)) else (none)) = some r:=H;have A14:=zm A140;clear A140;by_cases c15 : 0 ≤ a1
    ·rw [if_pos c15] at H;have c15b0 : decide (0 ≤ a1) = true:=decide_eq_true c15;clear c15;by_cases c16 : a1 < (t379.length : Int)
     ·rw [if_pos c16] at H;have c16b0 : decide (a1 < (t379.length : Int)) = true:=decide_eq_true c16;clear c16;have H':=zm H;clear H;have hcz17_0 : wc.cell? ⟨gb373,0,none⟩ = some (.slice A0_0 l0_0.length c0_0):=(zD BK373.out 0).trans rfl;have hcz17_1 : wc.cell? ⟨gb373,1,none⟩ = some (.slice A0_1 l0_1.length c0_1):=(zD BK373.out 1).trans rfl;have hcz17_2 : wc.cell? ⟨gb373,2,none⟩ = some (.slice A0_2 l0_2.length c0_2):=(zD BK373.out 2).trans rfl;have hcz17_3 : wc.cell? ⟨gb373,3,none⟩ = some (.slice A0_3 l0_3.length c0_3):=(zD BK373.out 3).trans rfl;have hfz17_0:=zE BK373.out 0;have hfz17_1:=zE BK373.out 1;have hfz17_2:=zE BK373.out 2;have hfz17_3:=zE BK373.out 3;go_wp2_with (first|((with_reducible refine gate_callee (f:=61) rfl ?_);refine goesL_ (some 24) rfl rfl Try.func61 (by kernel_rfl) rfl #[.agg #[.slice A0_0 l0_0.length c0_0,.slice A0_1 l0_1.length c0_1,.slice A0_2 l0_2.length c0_2,.slice A0_3 l0_3.length c0_3]] rfl (by (try simp only [List.map_toArray,List.map_cons,List.map_nil]);first|done|rfl|(simp only [List.length_drop,List.length_take];rfl)) ?_;(with_reducible refine (spec_l2both.calls kj2 _ _ l0_0 _ _ l0_1 _ _ l0_2 _ _ l0_3 t376 t379 _ ?side1 ?side2 ?side3 ?side4 ?side5 ?side6 ?side7 ?side8 A14.out).mono ?_);(case side1=>repeat (first|exact (zY HR0_0.out HB.out)|(with_reducible refine zT ?_ _)|(with_reducible refine zU ?_ _)|(with_reducible refine zV ?_)));(case side2=>exact HC0_0.out);(case side3=>repeat (first|exact (zY HR0_1.out HB.out)|(with_reducible refine zT ?_ _)|(with_reducible refine zU ?_ _)|(with_reducible refine zV ?_)));(case side4=>exact HC0_1.out);(case side5=>repeat (first|exact (zY HR0_2.out HB.out)|(with_reducible refine zT ?_ _)|(with_reducible refine zU ?_ _)|(with_reducible refine zV ?_)));(case side6=>exact HC0_2.out);(case side7=>repeat (first|exact (zY HR0_3.out HB.out)|(with_reducible refine zT ?_ _)|(with_reducible refine zU ?_ _)|(with_reducible refine zV ?_)));(case side8=>exact HC0_3.out);rintro e w18 ⟨v377,v380,rfl,ho0,ho1,hb⟩;refine ⟨_,rfl,?_⟩;have n0_:=zm (zZ ho0 (zJ (by repeat (first|(with_reducible first|exact HB.out|apply zA|apply zB|apply zC|refine zF ?_ GE373.out)|exact HB.out))));have n1_:=zm (zZ ho1 (zJ (by repeat (first|(with_reducible first|exact HB.out|apply zA|apply zB|apply zC|refine zF ?_ GE373.out)|exact HB.out))));have n2_:=zm (zL (g:=gb373) (o:=.cells #[.slice A0_0 l0_0.length c0_0,.slice A0_1 l0_1.length c0_1,.slice A0_2 l0_2.length c0_2,.slice A0_3 l0_3.length c0_3] 27 (0,0)) (by (with_reducible repeat (first|refine zH ?_ _|refine zI ?_|refine zG ?_ _));exact BK373.out) hb);have n3_:=zm (zK (by repeat (first|(with_reducible first|exact HB.out|apply zA|apply zB|apply zC|refine zF ?_ GE373.out)|exact HB.out)) hb);clear BK373;clear HB;have HO378:=n0_;have HO381:=n1_;have BK373:=n2_;have HB:=n3_;clear n0_ n1_ n2_ n3_;(try clear hb);(try clear hb2);(try clear hk);(try clear hi);(try clear ho0);(try clear ho1);obtain ⟨Ao19,co19,eo19⟩:=zAb HO381.out;subst eo19;have p382 : 0 ≤ (a1 : Int):=of_decide_eq_true (by first|(with_reducible assumption)|assumption);have q382 : a1 < (t379.length : Int):=of_decide_eq_true (by first|(with_reducible assumption)|assumption);obtain ⟨ad382,e382,hx382_0⟩:=Kd.at_int (zW HO381.out).2.2 a1 p382 q382;cases e382;replace p382:=eq_true p382;replace q382:=eq_true q382))
      go_loopg [7,8,9] kj2 (fun kq v7 v8 v9 w'=>∃ (x7_2 : Int) (x8_2 : Int) (x9_2 : Int),v7 = .int .i64 x7_2∧v8 = .int .i64 x8_2∧v9 = .int .i64 x9_2∧Aside0 (spec_Room.l0 kq x7_2 x8_2 x9_2 l0_0 l0_1 l0_2 l0_3 = some r)∧Aside0 (kq ≤ kj2)∧Aside0 (w'.heap[gb373]? = some (.cells #[(.slice A0_0 l0_0.length c0_0),(.slice A0_1 l0_1.length c0_1),(.slice A0_2 l0_2.length c0_2),(.slice A0_3 l0_3.length c0_3)] 27 (0,0)))∧Aside0 (Below w.heap.size w w'))
      case atStart=>exact ⟨(0),(a1),(rd t379 a1),(by first|rfl|(simp;done)|(simp [*];done)),(by first|rfl|(simp;done)|(simp [*];done)),(by first|rfl|(simp;done)|(simp [*];done)),H',⟨Nat.le_refl _⟩,⟨by (with_reducible repeat (first|refine zH ?_ _|refine zI ?_|refine zG ?_ _));exact BK373.out⟩,⟨by repeat (first|(with_reducible first|exact HB.out|apply zA|apply zB|apply zC|refine zF ?_ GE373.out)|exact HB.out)⟩⟩
      case round =>
       clear H';(try clear c1);(try clear c2);(try clear p2);(try clear p3);(try clear q3);(try clear hx3);(try clear c4);(try clear c6);(try clear c6b0);(try clear c6b1);(try clear p6);(try clear c13);(try clear c15);(try clear c15b0);(try clear c16);(try clear c16b0);(try clear hcz10_0);(try clear hcz10_1);(try clear hcz10_2);(try clear hcz10_3);(try clear hcz11_0);(try clear hcz11_1);(try clear hcz11_2);(try clear hcz11_3);(try clear hcz17_0);(try clear hcz17_1);(try clear hcz17_2);(try clear hcz17_3);(try clear hcz8_0);(try clear hcz8_1);(try clear hcz8_2);(try clear hcz8_3);(try clear hfz10_0);(try clear hfz10_1);(try clear hfz10_2);(try clear hfz10_3);(try clear hfz11_0);(try clear hfz11_1);(try clear hfz11_2);(try clear hfz11_3);(try clear hfz17_0);(try clear hfz17_1);(try clear hfz17_2);(try clear hfz17_3);(try clear hfz8_0);(try clear hfz8_1);(try clear hfz8_2);(try clear hfz8_3);(try clear hx382_0);(try clear p2);(try clear p382);(try clear p6);(try clear q382);obtain ⟨x7_2,x8_2,x9_2,rfl,rfl,rfl,HA,HK2,BK373,HB⟩:=hrel;cases gk with
       | zero=>exact absurd HA.out (by simp [spec_Room.l0])
       | succ k2 =>
        have H:=HA.out;clear HA;simp only [spec_Room.l0] at H
        by_cases c20 : x9_2 > 0
        ·rw [if_pos c20] at H;have c20b0 : decide (0 < x9_2) = true:=decide_eq_true c20;clear c20;by_cases c21 : x8_2 ≥ 0
         ·rw [if_pos c21] at H;have c21b0 : decide (0 ≤ x8_2) = true:=decide_eq_true c21;clear c21;by_cases c22 : 0 ≤ x8_2
          ·rw [if_pos c22] at H;have c22b0 : decide (0 ≤ x8_2) = true:=decide_eq_true c22;clear c22;by_cases c23 : x8_2 < (l0_1.length : Int)
           ·rw [if_pos c23] at H;have c23b0 : decide (x8_2 < (l0_1.length : Int)) = true:=decide_eq_true c23;clear c23;by_cases c24 : x8_2 < (l0_0.length : Int)
            ·rw [if_pos c24] at H;have c24b0 : decide (x8_2 < (l0_0.length : Int)) = true:=decide_eq_true c24;clear c24;have H':=zm H;clear H;have hcz25_0 : wr.cell? ⟨gb373,0,none⟩ = some (.slice A0_0 l0_0.length c0_0):=(zD BK373.out 0).trans rfl;have hcz25_1 : wr.cell? ⟨gb373,1,none⟩ = some (.slice A0_1 l0_1.length c0_1):=(zD BK373.out 1).trans rfl;have hcz25_2 : wr.cell? ⟨gb373,2,none⟩ = some (.slice A0_2 l0_2.length c0_2):=(zD BK373.out 2).trans rfl;have hcz25_3 : wr.cell? ⟨gb373,3,none⟩ = some (.slice A0_3 l0_3.length c0_3):=(zD BK373.out 3).trans rfl;have hfz25_0:=zE BK373.out 0;have hfz25_1:=zE BK373.out 1;have hfz25_2:=zE BK373.out 2;have hfz25_3:=zE BK373.out 3;have p383 : 0 ≤ (x8_2 : Int):=of_decide_eq_true (by first|(with_reducible assumption)|assumption)
             have q383 : x8_2 < (l0_1.length : Int):=of_decide_eq_true (by first|(with_reducible assumption)|assumption)
             obtain ⟨ad383,e383,hx383_0⟩:=Kd.at_int HR0_1.out x8_2 p383 q383;cases e383;replace hx383_0:=(HB.out.cell (World.block_lt_of_cell? w _ hx383_0)).trans hx383_0;replace p383:=eq_true p383;replace q383:=eq_true q383;have p384 : 0 ≤ (x8_2 : Int):=of_decide_eq_true (by first|(with_reducible assumption)|assumption)
             have q384 : x8_2 < (l0_0.length : Int):=of_decide_eq_true (by first|(with_reducible assumption)|assumption)
             obtain ⟨ad384,e384,hx384_0⟩:=Kd.at_int HR0_0.out x8_2 p384 q384;cases e384;replace hx384_0:=(HB.out.cell (World.block_lt_of_cell? w _ hx384_0)).trans hx384_0;replace p384:=eq_true p384;replace q384:=eq_true q384;go_wp2;go_roundg k2
             case measure=>have:=HJ2.out;have:=HK2.out;omega
             case rel=>exact ⟨(wrap64 (x7_2 + (rd l0_1 x8_2))),(rd l0_0 x8_2),(wrap64 (x9_2 - 1)),(by first|rfl|(simp;done)|(simp [*];done)),(by first|rfl|(simp;done)|(simp [*];done)),(by first|rfl|(simp;done)|(simp [*];done)),H',⟨by have:=HJ2.out;have:=HK2.out;omega⟩,⟨by (with_reducible repeat (first|refine zH ?_ _|refine zI ?_|refine zG ?_ _));exact BK373.out⟩,⟨by repeat (first|(with_reducible first|exact HB.out|apply zA|apply zB|apply zC|refine zF ?_ GE373.out)|exact HB.out)⟩⟩
            ·rw [if_neg c24] at H;exact absurd H (by simp)
           ·rw [if_neg c23] at H;exact absurd H (by simp)
          ·rw [if_neg c22] at H;exact absurd H (by simp)
         ·rw [if_neg c21] at H;have c21b0 : decide (0 ≤ x8_2) = false:=decide_eq_false c21;clear c21;obtain rfl:=Option.some.inj H;go_wp2;go_ret
          exact ⟨by first|rfl|(simp [errW_none,errW_some] <;> rfl)|(simp [*,errW_none,errW_some] <;> rfl),by repeat (first|(with_reducible first|exact HB.out|apply zA|apply zB|apply zC|refine zF ?_ GE373.out)|exact HB.out)⟩
        ·rw [if_neg c20] at H;have c20b0 : decide (0 < x9_2) = false:=decide_eq_false c20;clear c20;obtain rfl:=Option.some.inj H;go_wp2;go_ret
         exact ⟨by first|rfl|(simp [errW_none,errW_some] <;> rfl)|(simp [*,errW_none,errW_some] <;> rfl),by repeat (first|(with_reducible first|exact HB.out|apply zA|apply zB|apply zC|refine zF ?_ GE373.out)|exact HB.out)⟩
     ·rw [if_neg c16] at H;exact absurd H (by simp)
    ·rw [if_neg c15] at H;exact absurd H (by simp)

end Go.Proofs.Ytpdcghclcgbcfaa.P
