-- written by a program of this session (after the kit's print), not trusted: Lean checks it
import Derived.Test.YtpdcghclcgbcfaaQx0
import Derived.Test.YtpdcghclcgbcfaaQx4
namespace Go.Proofs.Ytpdcghclcgbcfaa.Q
open Go.RowKit Go.Proofs.YtpdcghclcgbcfaaW.PrintWords Go.Proofs.YtpdcghclcgbcfaaW.PrintLast Go.Proofs.YtpdcghclcgbcfaaW.PrintMore
open Go.Proofs.YtpdcghclcgbcfaaW.PrintWords renaming below_alloc → zA, below_drew1 → zC, below_set → zF, below_size → zJ, below_step → zK, blk_alloc → zG, blk_below → zL, blk_cell → zD, blk_drew → zI, blk_drewN → zH, blk_frozen → zE, box_event → zN, gate_dst → zM, pw_below_drewN → zB
open Go.Proofs.YtpdcghclcgbcfaaW.PrintWords.Kd renaming C_alloc → zT, C_below → zY, C_drew → zV, C_drewN → zU, R_alloc → zP, R_drew → zR, R_drewN → zQ, R_reads' → zW, R_slice → zAb
open Go.Proofs.YtpdcghclcgbcfaaW.PrintWords.Aside0 renaming mk → zm
attribute [local go_sem] max2_int min2_int max_two min_two max_three min_three max_four min_four   -- for this text's walks alone
set_option linter.unusedVariables false
set_option linter.unusedSimpArgs false

/-! ### spec_Chain: function 36 -/
mutual
def spec_Chain.j0 : Nat→Int→Bool→List Int→List Int→List Bool→List (List Bool)→Option (List Int)
 | 0,_,_,_,_,_,_=>none
 | k + 1,x1,x20,x254000,x254001,x254002,x254003=>if x20 = true then (some ([] : List Int)) else (spec_Chain.l0 k ([] : List Int) x1 x254000 x254001 x254002 x254003)
def spec_Chain.l0 : Nat→List Int→Int→List Int→List Int→List Bool→List (List Bool)→Option (List Int)
 | 0,_,_,_,_,_,_=>none
 | k + 1,x5,x6,x254000,x254001,x254002,x254003=>if x6 ≥ 0 then (spec_Chain.l1 k x5 x6 (x5.length : Int) 0 x254000 x254001 x254002 x254003) else (some x5)
def spec_Chain.l1 : Nat→List Int→Int→Int→Int→List Int→List Int→List Bool→List (List Bool)→Option (List Int)
 | 0,_,_,_,_,_,_,_,_=>none
 | k + 1,x5,x6,x30,x31,x254000,x254001,x254002,x254003=>if x31 < x30 then (if 0 ≤ x31 then (if x31 < (x5.length : Int) then (if (rd x5 x31) = x6 then (some x5) else (spec_Chain.l1 k x5 x6 x30 (wrap64 (x31 + 1)) x254000 x254001 x254002 x254003)) else (none)) else (none)) else (if x5.length < 17592186044416 then (if 0 ≤ x6 then (if x6 < (x254000.length : Int) then (spec_Chain.l0 k (x5 ++ [x6]) (rd x254000 x6) x254000 x254001 x254002 x254003) else (none)) else (none)) else (none))
end
def spec_Chain.f (k : Nat) (l0_0 : List Int) (l0_1 : List Int) (l0_2 : List Bool) (l0_3 : List (List Bool)) (a1 : Int) : Option (List Int):=(spec_RowOk.f k l0_0 l0_1 l0_2 l0_3).bind fun t254=>(if t254 = 0 then ((spec_l1in.f a1 0 (wrap64 ((l0_0.length : Int) - 1))).bind fun t255=>(spec_Chain.j0 k a1 (!t255) l0_0 l0_1 l0_2 l0_3)) else (spec_Chain.j0 k a1 true l0_0 l0_1 l0_2 l0_3))
theorem spec_Chain.mono_l : ∀ k,(∀ y0 y1 y2 y3 y4 y5,LeO (spec_Chain.j0 k y0 y1 y2 y3 y4 y5) (spec_Chain.j0 (k + 1) y0 y1 y2 y3 y4 y5))∧(∀ y0 y1 y2 y3 y4 y5,LeO (spec_Chain.l0 k y0 y1 y2 y3 y4 y5) (spec_Chain.l0 (k + 1) y0 y1 y2 y3 y4 y5))∧(∀ y0 y1 y2 y3 y4 y5 y6 y7,LeO (spec_Chain.l1 k y0 y1 y2 y3 y4 y5 y6 y7) (spec_Chain.l1 (k + 1) y0 y1 y2 y3 y4 y5 y6 y7))
 | 0=>⟨fun _ _ _ _ _ _ r h=>by simp [spec_Chain.j0] at h,fun _ _ _ _ _ _ r h=>by simp [spec_Chain.l0] at h,fun _ _ _ _ _ _ _ _ r h=>by simp [spec_Chain.l1] at h⟩
 | k + 1=>by
  obtain ⟨ih0,ih1,ih2⟩:=spec_Chain.mono_l k;refine ⟨?_,?_,?_⟩
  ·intro y0 y1 y2 y3 y4 y5
   unfold spec_Chain.j0
   repeat' first
   | (with_reducible exact ih0 _ _ _ _ _ _)
   | (with_reducible exact ih1 _ _ _ _ _ _)
   | (with_reducible exact ih2 _ _ _ _ _ _ _ _)
   | (with_reducible exact spec_RowOk.mono _ _ _ _ _)
   | (with_reducible exact LeO.refl _)
   | (with_reducible exact LeO.none _)
   | (with_reducible refine LeO.ite ?_ ?_)
   | (with_reducible refine LeO.bind ?_ (fun _=>?_))
   | exact ih0 _ _ _ _ _ _
   | exact ih1 _ _ _ _ _ _
   | exact ih2 _ _ _ _ _ _ _ _
   | exact spec_RowOk.mono _ _ _ _ _
   | exact LeO.none _
   | refine LeO.ite ?_ ?_
   | refine LeO.bind ?_ (fun _=>?_)
  ·intro y0 y1 y2 y3 y4 y5
   unfold spec_Chain.l0
   repeat' first
   | (with_reducible exact ih0 _ _ _ _ _ _)
   | (with_reducible exact ih1 _ _ _ _ _ _)
   | (with_reducible exact ih2 _ _ _ _ _ _ _ _)
   | (with_reducible exact spec_RowOk.mono _ _ _ _ _)
   | (with_reducible exact LeO.refl _)
   | (with_reducible exact LeO.none _)
   | (with_reducible refine LeO.ite ?_ ?_)
   | (with_reducible refine LeO.bind ?_ (fun _=>?_))
   | exact ih0 _ _ _ _ _ _
   | exact ih1 _ _ _ _ _ _
   | exact ih2 _ _ _ _ _ _ _ _
   | exact spec_RowOk.mono _ _ _ _ _
   | exact LeO.none _
   | refine LeO.ite ?_ ?_
   | refine LeO.bind ?_ (fun _=>?_)
  ·intro y0 y1 y2 y3 y4 y5 y6 y7
   unfold spec_Chain.l1
   repeat' first
   | (with_reducible exact ih0 _ _ _ _ _ _)
   | (with_reducible exact ih1 _ _ _ _ _ _)
   | (with_reducible exact ih2 _ _ _ _ _ _ _ _)
   | (with_reducible exact spec_RowOk.mono _ _ _ _ _)
   | (with_reducible exact LeO.refl _)
   | (with_reducible exact LeO.none _)
   | (with_reducible refine LeO.ite ?_ ?_)
   | (with_reducible refine LeO.bind ?_ (fun _=>?_))
   | exact ih0 _ _ _ _ _ _
   | exact ih1 _ _ _ _ _ _
   | exact ih2 _ _ _ _ _ _ _ _
   | exact spec_RowOk.mono _ _ _ _ _
   | exact LeO.none _
   | refine LeO.ite ?_ ?_
   | refine LeO.bind ?_ (fun _=>?_)
theorem spec_Chain.mono : ∀ a0 a1 a2 a3 a4 k,LeO (spec_Chain.f k a0 a1 a2 a3 a4) (spec_Chain.f (k + 1) a0 a1 a2 a3 a4):=by
 intro a0 a1 a2 a3 a4 k
 obtain ⟨ih0,ih1,ih2⟩:=spec_Chain.mono_l k;unfold spec_Chain.f
 repeat' first
   | (with_reducible exact ih0 _ _ _ _ _ _)
   | (with_reducible exact ih1 _ _ _ _ _ _)
   | (with_reducible exact ih2 _ _ _ _ _ _ _ _)
   | (with_reducible exact spec_RowOk.mono _ _ _ _ _)
   | (with_reducible exact LeO.refl _)
   | (with_reducible exact LeO.none _)
   | (with_reducible refine LeO.ite ?_ ?_)
   | (with_reducible refine LeO.bind ?_ (fun _=>?_))
   | exact ih0 _ _ _ _ _ _
   | exact ih1 _ _ _ _ _ _
   | exact ih2 _ _ _ _ _ _ _ _
   | exact spec_RowOk.mono _ _ _ _ _
   | exact LeO.none _
   | refine LeO.ite ?_ ?_
   | refine LeO.bind ?_ (fun _=>?_)
set_option maxHeartbeats 8000000 in
set_option maxRecDepth 100000 in
theorem spec_Chain.calls (k : Nat) (A0_0 : Option Addr) (c0_0 : Nat) (l0_0 : List Int) (A0_1 : Option Addr) (c0_1 : Nat) (l0_1 : List Int) (A0_2 : Option Addr) (c0_2 : Nat) (l0_2 : List Bool) (A0_3 : Option Addr) (c0_3 : Nat) (l0_3 : List (List Bool)) (a1 : Int) (r : List Int) (w : World) (hr0_0 : Kd.C (Kd.int .i64) w A0_0 l0_0.length l0_0) (hc0_0 : l0_0.length ≤ c0_0) (hr0_1 : Kd.C (Kd.int .i64) w A0_1 l0_1.length l0_1) (hc0_1 : l0_1.length ≤ c0_1) (hr0_2 : Kd.C Kd.bool w A0_2 l0_2.length l0_2) (hc0_2 : l0_2.length ≤ c0_2) (hr0_3 : Kd.C (Kd.slice 4 Kd.bool) w A0_3 l0_3.length l0_3) (hc0_3 : l0_3.length ≤ c0_3) (h : spec_Chain.f k l0_0 l0_1 l0_2 l0_3 a1 = some r) :
  Calls Try.prog 36 #[.agg #[.slice A0_0 l0_0.length c0_0,.slice A0_1 l0_1.length c0_1,.slice A0_2 l0_2.length c0_2,.slice A0_3 l0_3.length c0_3],.int .i64 a1] w fun e w'=>∃ v0_ : Value,e = .returned (v0_)∧Kd.R (Kd.int .i64) 3 w' w.heap.size (fun _=>True) v0_ r∧Below w.heap.size w w':=by
 have hu27:=Try.underlying27;have HR0_0:=zm hr0_0;have HC0_0:=zm hc0_0;clear hr0_0 hc0_0;have HR0_1:=zm hr0_1;have HC0_1:=zm hc0_1;clear hr0_1 hc0_1;have HR0_2:=zm hr0_2;have HC0_2:=zm hc0_2;clear hr0_2 hc0_2;have HR0_3:=zm hr0_3;have HC0_3:=zm hc0_3;clear hr0_3 hc0_3;have HB:=zm (Below.refl w.heap.size w);have H : ((spec_RowOk.f k l0_0 l0_1 l0_2 l0_3).bind fun t254=>(if t254 = 0 then ((spec_l1in.f a1 0 (wrap64 ((l0_0.length : Int) - 1))).bind fun t255=>(spec_Chain.j0 k a1 (!t255) l0_0 l0_1 l0_2 l0_3)) else (spec_Chain.j0 k a1 true l0_0 l0_1 l0_2 l0_3))) = some r:=h
 clear h;have HC3:=zm H;clear H;go_enter Try.func36,Try.ntmps36
 go_upto_region 1 with (first|((with_reducible refine zM (N:=2) rfl ?_);(try (refine gate_guard (by rfl) ?_;dsimp only));refine zN ?hg (N:=2) ?hd (cs:=#[.slice A0_0 l0_0.length c0_0,.slice A0_1 l0_1.length c0_1,.slice A0_2 l0_2.length c0_2,.slice A0_3 l0_3.length c0_3]) (t:=27) ?hr ?_;(case hd=>rfl);(case hg=>rfl);(case hr=>first|(go_simp;done)|(go_simp;rfl));intro gb253 hg w4 hbox hb;have n0_:=zm (zK (by repeat (first|(with_reducible first|exact HB.out|apply zA|apply zB|apply zC)|exact HB.out)) hb);have n1_:=zm (hbox);have n2_:=zm ((by rw [hg];exact (zJ (by repeat (first|(with_reducible first|exact HB.out|apply zA|apply zB|apply zC)|exact HB.out))) : w.heap.size ≤ gb253));have n3_:=zm ((by rw [hg];exact (zJ (by repeat (first|(with_reducible first|exact HB.out|apply zA|apply zB|apply zC)|exact HB.out))) : w.heap.size ≤ gb253));clear HB;have HB:=n0_;have BK253:=n1_;have GW253:=n2_;have GE253:=n3_;clear n0_ n1_ n2_ n3_;clear hb hbox hg))
 (try simp only [Act.put,List.setIfInBounds_toArray,List.set_cons_zero,List.set_cons_succ]);go_cut [20] (fun v20 wc=>∃ (kq : Nat) (x20_2 : Bool),v20 = .bool x20_2∧Aside0 (spec_Chain.j0 kq a1 x20_2 l0_0 l0_1 l0_2 l0_3 = some r)∧Aside0 (kq ≤ k)∧Aside0 (wc.heap[gb253]? = some (.cells #[(.slice A0_0 l0_0.length c0_0),(.slice A0_1 l0_1.length c0_1),(.slice A0_2 l0_2.length c0_2),(.slice A0_3 l0_3.length c0_3)] 27 (0,0)))∧Aside0 (Below w.heap.size w wc))
 case first =>
  have H:=HC3.out;clear HC3;replace H:=Option.bind_eq_some_iff.mp H;obtain ⟨t254,A50,H⟩:=H;replace H : (if t254 = 0 then ((spec_l1in.f a1 0 (wrap64 ((l0_0.length : Int) - 1))).bind fun t255=>(spec_Chain.j0 k a1 (!t255) l0_0 l0_1 l0_2 l0_3)) else (spec_Chain.j0 k a1 true l0_0 l0_1 l0_2 l0_3)) = some r:=H
  have A5:=zm A50;clear A50;by_cases c6 : t254 = 0
  ·rw [if_pos c6] at H;have c6b0 : (t254 == 0) = true:=beq_iff_eq.mpr c6;have c6b1 : (t254 != 0) = false:=bne_eq_false_iff_eq.mpr c6;clear c6;(first|rw [c6b0]|(simp only [i64_w,i32_w];rw [c6b0])|skip)
   replace H:=Option.bind_eq_some_iff.mp H;obtain ⟨t255,A70,H⟩:=H;replace H : (spec_Chain.j0 k a1 (!t255) l0_0 l0_1 l0_2 l0_3) = some r:=H;have A7:=zm A70;clear A70;have H':=zm H;clear H;have hcz8_0 : w4.cell? ⟨gb253,0,none⟩ = some (.slice A0_0 l0_0.length c0_0):=(zD BK253.out 0).trans rfl;have hcz8_1 : w4.cell? ⟨gb253,1,none⟩ = some (.slice A0_1 l0_1.length c0_1):=(zD BK253.out 1).trans rfl;have hcz8_2 : w4.cell? ⟨gb253,2,none⟩ = some (.slice A0_2 l0_2.length c0_2):=(zD BK253.out 2).trans rfl;have hcz8_3 : w4.cell? ⟨gb253,3,none⟩ = some (.slice A0_3 l0_3.length c0_3):=(zD BK253.out 3).trans rfl;have hfz8_0:=zE BK253.out 0;have hfz8_1:=zE BK253.out 1;have hfz8_2:=zE BK253.out 2;have hfz8_3:=zE BK253.out 3;go_wp2_with (first|((with_reducible refine gate_callee (f:=23) rfl ?_);refine goesL_ (some 10) rfl rfl Try.func23 (by kernel_rfl) rfl #[.agg #[.slice A0_0 l0_0.length c0_0,.slice A0_1 l0_1.length c0_1,.slice A0_2 l0_2.length c0_2,.slice A0_3 l0_3.length c0_3]] rfl (by (try simp only [List.map_toArray,List.map_cons,List.map_nil]);first|done|rfl|(simp only [List.length_drop,List.length_take];rfl)) ?_;(with_reducible refine (spec_RowOk.calls k _ _ l0_0 _ _ l0_1 _ _ l0_2 _ _ l0_3 t254 _ ?side1 ?side2 ?side3 ?side4 ?side5 ?side6 ?side7 ?side8 A5.out).mono ?_);(case side1=>repeat (first|exact (zY HR0_0.out HB.out)|(with_reducible refine zT ?_ _)|(with_reducible refine zU ?_ _)|(with_reducible refine zV ?_)));(case side2=>exact HC0_0.out);(case side3=>repeat (first|exact (zY HR0_1.out HB.out)|(with_reducible refine zT ?_ _)|(with_reducible refine zU ?_ _)|(with_reducible refine zV ?_)));(case side4=>exact HC0_1.out);(case side5=>repeat (first|exact (zY HR0_2.out HB.out)|(with_reducible refine zT ?_ _)|(with_reducible refine zU ?_ _)|(with_reducible refine zV ?_)));(case side6=>exact HC0_2.out);(case side7=>repeat (first|exact (zY HR0_3.out HB.out)|(with_reducible refine zT ?_ _)|(with_reducible refine zU ?_ _)|(with_reducible refine zV ?_)));(case side8=>exact HC0_3.out);rintro e w9 ⟨rfl,hb⟩;refine ⟨_,rfl,?_⟩;have n0_:=zm (zL (g:=gb253) (o:=.cells #[.slice A0_0 l0_0.length c0_0,.slice A0_1 l0_1.length c0_1,.slice A0_2 l0_2.length c0_2,.slice A0_3 l0_3.length c0_3] 27 (0,0)) (by (with_reducible repeat (first|refine zH ?_ _|refine zI ?_|refine zG ?_ _));exact BK253.out) hb);have n1_:=zm (zK (by repeat (first|(with_reducible first|exact HB.out|apply zA|apply zB|apply zC|refine zF ?_ GE253.out)|exact HB.out)) hb);clear BK253;clear HB;have BK253:=n0_;have HB:=n1_;clear n0_ n1_;(try clear hb);(try clear hb2);(try clear hk);(try clear hi);have hcz10_0 : w9.cell? ⟨gb253,0,none⟩ = some (.slice A0_0 l0_0.length c0_0):=(zD BK253.out 0).trans rfl;have hcz10_1 : w9.cell? ⟨gb253,1,none⟩ = some (.slice A0_1 l0_1.length c0_1):=(zD BK253.out 1).trans rfl;have hcz10_2 : w9.cell? ⟨gb253,2,none⟩ = some (.slice A0_2 l0_2.length c0_2):=(zD BK253.out 2).trans rfl;have hcz10_3 : w9.cell? ⟨gb253,3,none⟩ = some (.slice A0_3 l0_3.length c0_3):=(zD BK253.out 3).trans rfl;have hfz10_0:=zE BK253.out 0;have hfz10_1:=zE BK253.out 1;have hfz10_2:=zE BK253.out 2;have hfz10_3:=zE BK253.out 3)|(go_at_call 52;(with_reducible refine (spec_l1in.calls a1 0 (wrap64 ((l0_0.length : Int) - 1)) t255 _ A7.out).mono ?_);rintro e w' ⟨rfl,⟨nd,rfl⟩⟩))
   go_meet
   case rel=>exact ⟨_,(!t255),(by first|rfl|(simp;done)|(simp [*];done)),H',⟨by first|omega|exact Nat.le_refl _⟩,⟨by (with_reducible repeat (first|refine zH ?_ _|refine zI ?_|refine zG ?_ _));exact BK253.out⟩,⟨by repeat (first|(with_reducible first|exact HB.out|apply zA|apply zB|apply zC|refine zF ?_ GE253.out)|exact HB.out)⟩⟩
  ·rw [if_neg c6] at H;have c6b0 : (t254 == 0) = false:=beq_eq_false_iff_ne.mpr c6;have c6b1 : (t254 != 0) = true:=bne_iff_ne.mpr c6;(first|rw [c6b0]|(simp only [i64_w,i32_w];rw [c6b0])|skip)
   have H':=zm H;clear H;have hcz11_0 : w4.cell? ⟨gb253,0,none⟩ = some (.slice A0_0 l0_0.length c0_0):=(zD BK253.out 0).trans rfl;have hcz11_1 : w4.cell? ⟨gb253,1,none⟩ = some (.slice A0_1 l0_1.length c0_1):=(zD BK253.out 1).trans rfl;have hcz11_2 : w4.cell? ⟨gb253,2,none⟩ = some (.slice A0_2 l0_2.length c0_2):=(zD BK253.out 2).trans rfl;have hcz11_3 : w4.cell? ⟨gb253,3,none⟩ = some (.slice A0_3 l0_3.length c0_3):=(zD BK253.out 3).trans rfl;have hfz11_0:=zE BK253.out 0;have hfz11_1:=zE BK253.out 1;have hfz11_2:=zE BK253.out 2;have hfz11_3:=zE BK253.out 3;go_wp2_with (first|((with_reducible refine gate_callee (f:=23) rfl ?_);refine goesL_ (some 10) rfl rfl Try.func23 (by kernel_rfl) rfl #[.agg #[.slice A0_0 l0_0.length c0_0,.slice A0_1 l0_1.length c0_1,.slice A0_2 l0_2.length c0_2,.slice A0_3 l0_3.length c0_3]] rfl (by (try simp only [List.map_toArray,List.map_cons,List.map_nil]);first|done|rfl|(simp only [List.length_drop,List.length_take];rfl)) ?_;(with_reducible refine (spec_RowOk.calls k _ _ l0_0 _ _ l0_1 _ _ l0_2 _ _ l0_3 t254 _ ?side1 ?side2 ?side3 ?side4 ?side5 ?side6 ?side7 ?side8 A5.out).mono ?_);(case side1=>repeat (first|exact (zY HR0_0.out HB.out)|(with_reducible refine zT ?_ _)|(with_reducible refine zU ?_ _)|(with_reducible refine zV ?_)));(case side2=>exact HC0_0.out);(case side3=>repeat (first|exact (zY HR0_1.out HB.out)|(with_reducible refine zT ?_ _)|(with_reducible refine zU ?_ _)|(with_reducible refine zV ?_)));(case side4=>exact HC0_1.out);(case side5=>repeat (first|exact (zY HR0_2.out HB.out)|(with_reducible refine zT ?_ _)|(with_reducible refine zU ?_ _)|(with_reducible refine zV ?_)));(case side6=>exact HC0_2.out);(case side7=>repeat (first|exact (zY HR0_3.out HB.out)|(with_reducible refine zT ?_ _)|(with_reducible refine zU ?_ _)|(with_reducible refine zV ?_)));(case side8=>exact HC0_3.out);rintro e w12 ⟨rfl,hb⟩;refine ⟨_,rfl,?_⟩;have n0_:=zm (zL (g:=gb253) (o:=.cells #[.slice A0_0 l0_0.length c0_0,.slice A0_1 l0_1.length c0_1,.slice A0_2 l0_2.length c0_2,.slice A0_3 l0_3.length c0_3] 27 (0,0)) (by (with_reducible repeat (first|refine zH ?_ _|refine zI ?_|refine zG ?_ _));exact BK253.out) hb);have n1_:=zm (zK (by repeat (first|(with_reducible first|exact HB.out|apply zA|apply zB|apply zC|refine zF ?_ GE253.out)|exact HB.out)) hb);clear BK253;clear HB;have BK253:=n0_;have HB:=n1_;clear n0_ n1_;(try clear hb);(try clear hb2);(try clear hk);(try clear hi)))
   go_meet
   case rel=>exact ⟨_,(true),(by first|rfl|(simp;done)|(simp [*];done)),H',⟨by first|omega|exact Nat.le_refl _⟩,⟨by (with_reducible repeat (first|refine zH ?_ _|refine zI ?_|refine zG ?_ _));exact BK253.out⟩,⟨by repeat (first|(with_reducible first|exact HB.out|apply zA|apply zB|apply zC|refine zF ?_ GE253.out)|exact HB.out)⟩⟩
 case rest =>
  clear HC3;(try clear c2);(try clear p2);(try clear c3);(try clear c6);(try clear c6b0);(try clear c6b1);(try clear p6);(try clear hcz10_0);(try clear hcz10_1);(try clear hcz10_2);(try clear hcz10_3);(try clear hcz11_0);(try clear hcz11_1);(try clear hcz11_2);(try clear hcz11_3);(try clear hcz8_0);(try clear hcz8_1);(try clear hcz8_2);(try clear hcz8_3);(try clear hfz10_0);(try clear hfz10_1);(try clear hfz10_2);(try clear hfz10_3);(try clear hfz11_0);(try clear hfz11_1);(try clear hfz11_2);(try clear hfz11_3);(try clear hfz8_0);(try clear hfz8_1);(try clear hfz8_2);(try clear hfz8_3);obtain ⟨kq,x20_2,rfl,HA,HJ2,BK253,HB⟩:=hcut;cases kq with
  | zero=>exact absurd HA.out (by simp [spec_Chain.j0])
  | succ kj2 =>
   have H:=HA.out;clear HA;simp only [spec_Chain.j0] at H
   by_cases c13 : x20_2 = true
   ·subst c13
    have H1 : (some ([] : List Int)) = some r:=by rw [if_pos rfl] at H;exact H
    clear H;have H:=H1;clear H1;obtain rfl:=Option.some.inj H;go_wp2;go_ret
    exact ⟨_,by first|rfl|(simp [errW_none,errW_some] <;> rfl)|(simp [*,errW_none,errW_some] <;> rfl),by first|exact Kd.R_nil _ _ _ _ _|exact Kd.N_nil _ _ _ _ _|exact Kd.V_nil _ _ _ _ _|exact Kd.Q_nil _ _ _ _ _|exact Kd.S_nil _ _ _ _ _,by repeat (first|(with_reducible first|exact HB.out|apply zA|apply zB|apply zC|refine zF ?_ GE253.out)|exact HB.out)⟩
   ·replace c13:=Bool.eq_false_iff.mpr c13;subst c13
    have H1 : (spec_Chain.l0 kj2 ([] : List Int) a1 l0_0 l0_1 l0_2 l0_3) = some r:=by rw [if_neg (show ¬ (false = true) by decide)] at H;exact H
    clear H;have H:=H1;clear H1;have H':=zm H;clear H;go_wp2;go_loopg [5,6] kj2 (fun kq v5 v6 w'=>∃ (x5_2 : List Int) (x6_2 : Int),v6 = .int .i64 x6_2∧Aside0 (spec_Chain.l0 kq x5_2 x6_2 l0_0 l0_1 l0_2 l0_3 = some r)∧Aside0 (kq ≤ kj2)∧Aside0 (Kd.R (Kd.int .i64) 3 w' w.heap.size (fun _=>True) v5 x5_2)∧Aside0 (w'.heap[gb253]? = some (.cells #[(.slice A0_0 l0_0.length c0_0),(.slice A0_1 l0_1.length c0_1),(.slice A0_2 l0_2.length c0_2),(.slice A0_3 l0_3.length c0_3)] 27 (0,0)))∧Aside0 (Below w.heap.size w w'))
    case atStart=>exact ⟨(([] : List Int)),(a1),(by first|rfl|(simp;done)|(simp [*];done)),H',⟨Nat.le_refl _⟩,⟨by first|exact Kd.R_nil _ _ _ _ _|exact Kd.N_nil _ _ _ _ _|exact Kd.V_nil _ _ _ _ _|exact Kd.Q_nil _ _ _ _ _|exact Kd.S_nil _ _ _ _ _⟩,⟨by (with_reducible repeat (first|refine zH ?_ _|refine zI ?_|refine zG ?_ _));exact BK253.out⟩,⟨by repeat (first|(with_reducible first|exact HB.out|apply zA|apply zB|apply zC|refine zF ?_ GE253.out)|exact HB.out)⟩⟩
    case round =>
     clear H';(try clear c1);(try clear c2);(try clear p2);(try clear c3);(try clear c6);(try clear c6b0);(try clear c6b1);(try clear p6);(try clear c13);(try clear hcz10_0);(try clear hcz10_1);(try clear hcz10_2);(try clear hcz10_3);(try clear hcz11_0);(try clear hcz11_1);(try clear hcz11_2);(try clear hcz11_3);(try clear hcz8_0);(try clear hcz8_1);(try clear hcz8_2);(try clear hcz8_3);(try clear hfz10_0);(try clear hfz10_1);(try clear hfz10_2);(try clear hfz10_3);(try clear hfz11_0);(try clear hfz11_1);(try clear hfz11_2);(try clear hfz11_3);(try clear hfz8_0);(try clear hfz8_1);(try clear hfz8_2);(try clear hfz8_3);(try clear p2);(try clear p6);obtain ⟨x5_2,x6_2,rfl,HA,HK2,HO_5,BK253,HB⟩:=hrel;cases gk with
     | zero=>exact absurd HA.out (by simp [spec_Chain.l0])
     | succ k2 =>
      have H:=HA.out;clear HA;simp only [spec_Chain.l0] at H
      by_cases c14 : x6_2 ≥ 0
      ·rw [if_pos c14] at H;have c14b0 : decide (0 ≤ x6_2) = true:=decide_eq_true c14;clear c14;have H':=zm H;clear H;obtain ⟨Ao15,co15,eo15⟩:=zAb HO_5.out;subst eo15
       go_wp2;go_loopg [31] k2 (fun kq v31 w'=>∃ (x31_3 : Int),v31 = .int .i64 x31_3∧Aside0 (spec_Chain.l1 kq x5_2 x6_2 (x5_2.length : Int) x31_3 l0_0 l0_1 l0_2 l0_3 = some r)∧Aside0 (kq ≤ k2)∧Aside0 (Kd.R (Kd.int .i64) 3 w' w.heap.size (fun _=>True) (.slice Ao15 x5_2.length co15) x5_2)∧Aside0 (w'.heap[gb253]? = some (.cells #[(.slice A0_0 l0_0.length c0_0),(.slice A0_1 l0_1.length c0_1),(.slice A0_2 l0_2.length c0_2),(.slice A0_3 l0_3.length c0_3)] 27 (0,0)))∧Aside0 (Below w.heap.size w w'))
       case atStart=>exact ⟨(0),(by first|rfl|(simp;done)|(simp [*];done)),H',⟨Nat.le_refl _⟩,⟨by (with_reducible repeat (first|apply zP|apply zQ|apply zR));exact HO_5.out⟩,⟨by (with_reducible repeat (first|refine zH ?_ _|refine zI ?_|refine zG ?_ _));exact BK253.out⟩,⟨by repeat (first|(with_reducible first|exact HB.out|apply zA|apply zB|apply zC|refine zF ?_ GE253.out)|exact HB.out)⟩⟩
       case round =>
        clear H';(try clear c1);(try clear c2);(try clear p2);(try clear c3);(try clear c6);(try clear c6b0);(try clear c6b1);(try clear p6);(try clear c13);(try clear c14);(try clear c14b0);(try clear hcz10_0);(try clear hcz10_1);(try clear hcz10_2);(try clear hcz10_3);(try clear hcz11_0);(try clear hcz11_1);(try clear hcz11_2);(try clear hcz11_3);(try clear hcz8_0);(try clear hcz8_1);(try clear hcz8_2);(try clear hcz8_3);(try clear hfz10_0);(try clear hfz10_1);(try clear hfz10_2);(try clear hfz10_3);(try clear hfz11_0);(try clear hfz11_1);(try clear hfz11_2);(try clear hfz11_3);(try clear hfz8_0);(try clear hfz8_1);(try clear hfz8_2);(try clear hfz8_3);(try clear p2);(try clear p6);obtain ⟨x31_3,rfl,HA,HK3,HO_5,BK253,HB⟩:=hrel;cases gk with
        | zero=>exact absurd HA.out (by simp [spec_Chain.l1])
        | succ k3 =>
         have H:=HA.out;clear HA;simp only [spec_Chain.l1] at H
         by_cases c16 : x31_3 < (x5_2.length : Int)
         ·rw [if_pos c16] at H;have c16b0 : decide (x31_3 < (x5_2.length : Int)) = true:=decide_eq_true c16;clear c16;by_cases c17 : 0 ≤ x31_3
          ·rw [if_pos c17] at H;have c17b0 : decide (0 ≤ x31_3) = true:=decide_eq_true c17;clear c17;by_cases c18 : x31_3 < (x5_2.length : Int)
           ·rw [if_pos c18] at H;have c18b0 : decide (x31_3 < (x5_2.length : Int)) = true:=decide_eq_true c18;clear c18;by_cases c19 : (rd x5_2 x31_3) = x6_2
            ·rw [if_pos c19] at H;have c19b0 : ((rd x5_2 x31_3) == x6_2) = true:=beq_iff_eq.mpr c19;have c19b1 : ((rd x5_2 x31_3) != x6_2) = false:=bne_eq_false_iff_eq.mpr c19;clear c19;obtain rfl:=Option.some.inj H;have p256 : 0 ≤ (x31_3 : Int):=of_decide_eq_true (by first|(with_reducible assumption)|assumption)
             have q256 : x31_3 < (x5_2.length : Int):=of_decide_eq_true (by first|(with_reducible assumption)|assumption)
             obtain ⟨ad256,e256,hx256_0⟩:=Kd.at_int (zW HO_5.out).2.2 x31_3 p256 q256;cases e256;replace p256:=eq_true p256;replace q256:=eq_true q256;go_wp2;go_ret
             exact ⟨_,by first|rfl|(simp [errW_none,errW_some] <;> rfl)|(simp [*,errW_none,errW_some] <;> rfl),by (with_reducible repeat (first|apply zP|apply zQ|apply zR));exact HO_5.out,by repeat (first|(with_reducible first|exact HB.out|apply zA|apply zB|apply zC|refine zF ?_ GE253.out)|exact HB.out)⟩
            ·rw [if_neg c19] at H;have c19b0 : ((rd x5_2 x31_3) == x6_2) = false:=beq_eq_false_iff_ne.mpr c19;have c19b1 : ((rd x5_2 x31_3) != x6_2) = true:=bne_iff_ne.mpr c19;have H':=zm H;clear H;have p256 : 0 ≤ (x31_3 : Int):=of_decide_eq_true (by first|(with_reducible assumption)|assumption)
             have q256 : x31_3 < (x5_2.length : Int):=of_decide_eq_true (by first|(with_reducible assumption)|assumption)
             obtain ⟨ad256,e256,hx256_0⟩:=Kd.at_int (zW HO_5.out).2.2 x31_3 p256 q256;cases e256;replace p256:=eq_true p256;replace q256:=eq_true q256;go_wp2;go_roundg k3
             case measure=>have:=HJ2.out;have:=HK2.out;have:=HK3.out;omega
             case rel=>exact ⟨(wrap64 (x31_3 + 1)),(by first|rfl|(simp;done)|(simp [*];done)),H',⟨by have:=HJ2.out;have:=HK2.out;have:=HK3.out;omega⟩,⟨by (with_reducible repeat (first|apply zP|apply zQ|apply zR));exact HO_5.out⟩,⟨by (with_reducible repeat (first|refine zH ?_ _|refine zI ?_|refine zG ?_ _));exact BK253.out⟩,⟨by repeat (first|(with_reducible first|exact HB.out|apply zA|apply zB|apply zC|refine zF ?_ GE253.out)|exact HB.out)⟩⟩
           ·rw [if_neg c18] at H;exact absurd H (by simp)
          ·rw [if_neg c17] at H;exact absurd H (by simp)
         ·rw [if_neg c16] at H;have c16b0 : decide (x31_3 < (x5_2.length : Int)) = false:=decide_eq_false c16;clear c16;by_cases c20 : x5_2.length < 17592186044416
          ·rw [if_pos c20] at H;have LMc20:=zm c20;clear c20;obtain ⟨y257,hy257⟩ : ∃ y_ : List Int,y_ = (x5_2 ++ [x6_2]):=⟨_,rfl⟩;replace H : (if 0 ≤ x6_2 then (if x6_2 < (l0_0.length : Int) then (spec_Chain.l0 k3 y257 (rd l0_0 x6_2) l0_0 l0_1 l0_2 l0_3) else (none)) else (none)) = some r:=by first|(rw [hy257];with_reducible exact H)|(have H2_:=(Option.bind_some _ _).symm.trans H;rw [hy257];with_reducible exact H2_)|(have H2_:=(Option.bind_some _ _).symm.trans H;with_reducible exact H2_)|with_reducible exact H|(rw [hy257];exact H)|exact H
           have Ny257:=zm hy257;clear hy257;by_cases c21 : 0 ≤ x6_2
           ·rw [if_pos c21] at H;have c21b0 : decide (0 ≤ x6_2) = true:=decide_eq_true c21;clear c21;by_cases c22 : x6_2 < (l0_0.length : Int)
            ·rw [if_pos c22] at H;have c22b0 : decide (x6_2 < (l0_0.length : Int)) = true:=decide_eq_true c22;clear c22;have H':=zm H;clear H;go_wp2_with (first|((with_reducible refine gate_builtin (b:=.append) (xs:=#[.tmp 40,.tmp 42]) rfl ?_);(try (refine gate_guard (by rfl) ?_;dsimp only));at_builtin;refine Kd.R_append (Kd.int .i64) (w0:=w) w.heap.size rfl (.tmp 40) (.tmp 42) 23 3 (.int .i64 0) 8 rfl Try.underlying23 info3 rfl (by decide) (by omega) (.slice Ao15 x5_2.length co15) x5_2 x6_2 [.int .i64 x6_2] (fun _=>True) (fun _=>False) rfl rfl ?aP (fun _ hk=>hk.elim) ?aF ?aO ?aB ?aS ?aL ?_;(case aP=>exact rfl);(case aB=>exact (by repeat (first|(with_reducible first|exact HB.out|apply zA|apply zB|apply zC|refine zF ?_ GE253.out)|exact HB.out)));(case aF=>exact (fun _ _=>trivial));(case aO=>exact (by (with_reducible repeat (first|apply zP|apply zQ|apply zR));exact HO_5.out));(case aS=>exact (zJ (by repeat (first|(with_reducible first|exact HB.out|apply zA|apply zB|apply zC|refine zF ?_ GE253.out)|exact HB.out))));(case aL=>have:=LMc20.out;omega);intro v258 w23 ho hb hg hat;rw [← Ny257.out] at ho;have n0_:=zm (blk_grown (g:=gb253) (o:=.cells #[.slice A0_0 l0_0.length c0_0,.slice A0_1 l0_1.length c0_1,.slice A0_2 l0_2.length c0_2,.slice A0_3 l0_3.length c0_3] 27 (0,0)) (by (with_reducible repeat (first|refine zH ?_ _|refine zI ?_|refine zG ?_ _));exact BK253.out) hg (Kd.R_ne HO_5.out BK253.out (by decide)));have n1_:=zm (hb);have n2_:=zm (ho);clear BK253;clear HB;clear HO_5;have BK253:=n0_;have HB:=n1_;have HO259:=n2_;clear n0_ n1_ n2_;clear ho hb hg hat;have hcz24_0 : w23.cell? ⟨gb253,0,none⟩ = some (.slice A0_0 l0_0.length c0_0):=(zD BK253.out 0).trans rfl;have hcz24_1 : w23.cell? ⟨gb253,1,none⟩ = some (.slice A0_1 l0_1.length c0_1):=(zD BK253.out 1).trans rfl;have hcz24_2 : w23.cell? ⟨gb253,2,none⟩ = some (.slice A0_2 l0_2.length c0_2):=(zD BK253.out 2).trans rfl;have hcz24_3 : w23.cell? ⟨gb253,3,none⟩ = some (.slice A0_3 l0_3.length c0_3):=(zD BK253.out 3).trans rfl;have hfz24_0:=zE BK253.out 0;have hfz24_1:=zE BK253.out 1;have hfz24_2:=zE BK253.out 2;have hfz24_3:=zE BK253.out 3;have p260 : 0 ≤ (x6_2 : Int):=of_decide_eq_true (by first|(with_reducible assumption)|assumption);have q260 : x6_2 < (l0_0.length : Int):=of_decide_eq_true (by first|(with_reducible assumption)|assumption);obtain ⟨ad260,e260,hx260_0⟩:=Kd.at_int HR0_0.out x6_2 p260 q260;cases e260;replace hx260_0:=(HB.out.cell (World.block_lt_of_cell? w _ hx260_0)).trans hx260_0;replace p260:=eq_true p260;replace q260:=eq_true q260))
             go_roundg k3
             case measure=>have:=HJ2.out;have:=HK2.out;have:=HK3.out;omega
             case rel=>exact ⟨(y257),(rd l0_0 x6_2),(by first|rfl|(simp;done)|(simp [*];done)),H',⟨by have:=HJ2.out;have:=HK2.out;have:=HK3.out;omega⟩,⟨by (with_reducible repeat (first|apply zP|apply zQ|apply zR));exact HO259.out⟩,⟨by (with_reducible repeat (first|refine zH ?_ _|refine zI ?_|refine zG ?_ _));exact BK253.out⟩,⟨by repeat (first|(with_reducible first|exact HB.out|apply zA|apply zB|apply zC|refine zF ?_ GE253.out)|exact HB.out)⟩⟩
            ·rw [if_neg c22] at H;exact absurd H (by simp)
           ·rw [if_neg c21] at H;exact absurd H (by simp)
          ·rw [if_neg c20] at H;exact absurd H (by simp)
      ·rw [if_neg c14] at H;have c14b0 : decide (0 ≤ x6_2) = false:=decide_eq_false c14;clear c14;obtain rfl:=Option.some.inj H;go_wp2;go_ret
       exact ⟨_,by first|rfl|(simp [errW_none,errW_some] <;> rfl)|(simp [*,errW_none,errW_some] <;> rfl),by (with_reducible repeat (first|apply zP|apply zQ|apply zR));exact HO_5.out,by repeat (first|(with_reducible first|exact HB.out|apply zA|apply zB|apply zC|refine zF ?_ GE253.out)|exact HB.out)⟩

end Go.Proofs.Ytpdcghclcgbcfaa.Q
