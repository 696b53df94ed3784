-- written by a program of this session (after the kit's print), not trusted: Lean checks it
import Derived.Test.YtpdcghclcgbcfaaPx0
import Derived.Test.YtpdcghclcgbcfaaPx4
import Derived.Test.YtpdcghclcgbcfaaPx14
import Derived.Test.YtpdcghclcgbcfaaPx18
import Derived.Test.YtpdcghclcgbcfaaPx22
namespace Go.Proofs.Ytpdcghclcgbcfaa.P
open Go.RowKit Go.Proofs.YtpdcghclcgbcfaaW.PrintWords Go.Proofs.YtpdcghclcgbcfaaW.PrintLast Go.Proofs.YtpdcghclcgbcfaaW.PrintMore
open Go.Proofs.YtpdcghclcgbcfaaW.PrintWords renaming below_alloc → zA, below_drew1 → zC, below_set → zF, below_size → zJ, below_step → zK, blk_alloc → zG, blk_below → zL, blk_cell → zD, blk_drew → zI, blk_drewN → zH, blk_frozen → zE, box_event → zN, gate_dst → zM, pw_below_drewN → zB
open Go.Proofs.YtpdcghclcgbcfaaW.PrintWords.Kd renaming C_alloc → zT, C_below → zY, C_drew → zV, C_drewN → zU, R_lower → zZ, R_reads' → zW, R_slice → zAb
open Go.Proofs.YtpdcghclcgbcfaaW.PrintWords.Aside0 renaming mk → zm
attribute [local go_sem] max2_int min2_int max_two min_two max_three min_three max_four min_four   -- for this text's walks alone
set_option linter.unusedVariables false
set_option linter.unusedSimpArgs false

/-! ### spec_Speed: function 44 -/
mutual
def spec_Speed.j0 : Nat→Int→Int→Int→Int→Bool→List Int→List Int→List Bool→List (List Bool)→Option (Int)
 | 0,_,_,_,_,_,_,_,_,_=>none
 | k + 1,x1,x2,x3,x9,x28,x433000,x433001,x433002,x433003=>if x28 = true then (some (-1)) else ((spec_l2both.f k x433000 x433001 x433002 x433003).bind fun bt436=>(if 0 ≤ x1 then (if x1 < (bt436.2.length : Int) then (if (rd bt436.2 x1) ≤ 0 then (some 0) else (spec_Speed.l0 k x2 x3 x9 0 0)) else (none)) else (none)))
def spec_Speed.l0 : Nat→Int→Int→Int→Int→Int→Option (Int)
 | 0,_,_,_,_,_=>none
 | k + 1,x2,x3,x9,x12,x13=>if x13 ≤ 10000 then ((spec_l3slow.f k x13 x2).bind fun t443=>(if (wrap64 ((wrap64 (x3 * x13)) + t443)) > x9 then (some x12) else (spec_Speed.l0 k x2 x3 x9 x13 (wrap64 (x13 + 1))))) else (some x12)
end
def spec_Speed.f (k : Nat) (l0_0 : List Int) (l0_1 : List Int) (l0_2 : List Bool) (l0_3 : List (List Bool)) (a1 : Int) (a2 : Int) (a3 : Int) : Option (Int):=(spec_Room.f k l0_0 l0_1 l0_2 l0_3 a1).bind fun t433=>(if t433 < 0 then (spec_Speed.j0 k a1 a2 a3 t433 true l0_0 l0_1 l0_2 l0_3) else ((spec_l1in.f a2 10 1000).bind fun t434=>(if t434 = true then ((spec_l1in.f a3 0 20).bind fun t435=>(spec_Speed.j0 k a1 a2 a3 t433 (!t435) l0_0 l0_1 l0_2 l0_3)) else (spec_Speed.j0 k a1 a2 a3 t433 true l0_0 l0_1 l0_2 l0_3))))
theorem spec_Speed.mono_l : ∀ k,(∀ y0 y1 y2 y3 y4 y5 y6 y7 y8,LeO (spec_Speed.j0 k y0 y1 y2 y3 y4 y5 y6 y7 y8) (spec_Speed.j0 (k + 1) y0 y1 y2 y3 y4 y5 y6 y7 y8))∧(∀ y0 y1 y2 y3 y4,LeO (spec_Speed.l0 k y0 y1 y2 y3 y4) (spec_Speed.l0 (k + 1) y0 y1 y2 y3 y4))
 | 0=>⟨fun _ _ _ _ _ _ _ _ _ r h=>by simp [spec_Speed.j0] at h,fun _ _ _ _ _ r h=>by simp [spec_Speed.l0] at h⟩
 | k + 1=>by
  obtain ⟨ih0,ih1⟩:=spec_Speed.mono_l k;refine ⟨?_,?_⟩
  ·intro y0 y1 y2 y3 y4 y5 y6 y7 y8
   unfold spec_Speed.j0
   repeat' first
   | (with_reducible exact ih0 _ _ _ _ _ _ _ _ _)
   | (with_reducible exact ih1 _ _ _ _ _)
   | (with_reducible exact spec_Room.mono _ _ _ _ _ _)
   | (with_reducible exact spec_l2both.mono _ _ _ _ _)
   | (with_reducible exact spec_l3slow.mono _ _ _)
   | (with_reducible exact LeO.refl _)
   | (with_reducible exact LeO.none _)
   | (with_reducible refine LeO.ite ?_ ?_)
   | (with_reducible refine LeO.bind ?_ (fun _=>?_))
   | exact ih0 _ _ _ _ _ _ _ _ _
   | exact ih1 _ _ _ _ _
   | exact spec_Room.mono _ _ _ _ _ _
   | exact spec_l2both.mono _ _ _ _ _
   | exact spec_l3slow.mono _ _ _
   | exact LeO.none _
   | refine LeO.ite ?_ ?_
   | refine LeO.bind ?_ (fun _=>?_)
  ·intro y0 y1 y2 y3 y4
   unfold spec_Speed.l0
   repeat' first
   | (with_reducible exact ih0 _ _ _ _ _ _ _ _ _)
   | (with_reducible exact ih1 _ _ _ _ _)
   | (with_reducible exact spec_Room.mono _ _ _ _ _ _)
   | (with_reducible exact spec_l2both.mono _ _ _ _ _)
   | (with_reducible exact spec_l3slow.mono _ _ _)
   | (with_reducible exact LeO.refl _)
   | (with_reducible exact LeO.none _)
   | (with_reducible refine LeO.ite ?_ ?_)
   | (with_reducible refine LeO.bind ?_ (fun _=>?_))
   | exact ih0 _ _ _ _ _ _ _ _ _
   | exact ih1 _ _ _ _ _
   | exact spec_Room.mono _ _ _ _ _ _
   | exact spec_l2both.mono _ _ _ _ _
   | exact spec_l3slow.mono _ _ _
   | exact LeO.none _
   | refine LeO.ite ?_ ?_
   | refine LeO.bind ?_ (fun _=>?_)
theorem spec_Speed.mono : ∀ a0 a1 a2 a3 a4 a5 a6 k,LeO (spec_Speed.f k a0 a1 a2 a3 a4 a5 a6) (spec_Speed.f (k + 1) a0 a1 a2 a3 a4 a5 a6):=by
 intro a0 a1 a2 a3 a4 a5 a6 k
 obtain ⟨ih0,ih1⟩:=spec_Speed.mono_l k;unfold spec_Speed.f
 repeat' first
   | (with_reducible exact ih0 _ _ _ _ _ _ _ _ _)
   | (with_reducible exact ih1 _ _ _ _ _)
   | (with_reducible exact spec_Room.mono _ _ _ _ _ _)
   | (with_reducible exact spec_l2both.mono _ _ _ _ _)
   | (with_reducible exact spec_l3slow.mono _ _ _)
   | (with_reducible exact LeO.refl _)
   | (with_reducible exact LeO.none _)
   | (with_reducible refine LeO.ite ?_ ?_)
   | (with_reducible refine LeO.bind ?_ (fun _=>?_))
   | exact ih0 _ _ _ _ _ _ _ _ _
   | exact ih1 _ _ _ _ _
   | exact spec_Room.mono _ _ _ _ _ _
   | exact spec_l2both.mono _ _ _ _ _
   | exact spec_l3slow.mono _ _ _
   | exact LeO.none _
   | refine LeO.ite ?_ ?_
   | refine LeO.bind ?_ (fun _=>?_)
set_option maxHeartbeats 8000000 in
set_option maxRecDepth 100000 in
theorem spec_Speed.calls (k : Nat) (A0_0 : Option Addr) (c0_0 : Nat) (l0_0 : List Int) (A0_1 : Option Addr) (c0_1 : Nat) (l0_1 : List Int) (A0_2 : Option Addr) (c0_2 : Nat) (l0_2 : List Bool) (A0_3 : Option Addr) (c0_3 : Nat) (l0_3 : List (List Bool)) (a1 : Int) (a2 : Int) (a3 : Int) (r : Int) (w : World) (hr0_0 : Kd.C (Kd.int .i64) w A0_0 l0_0.length l0_0) (hc0_0 : l0_0.length ≤ c0_0) (hr0_1 : Kd.C (Kd.int .i64) w A0_1 l0_1.length l0_1) (hc0_1 : l0_1.length ≤ c0_1) (hr0_2 : Kd.C Kd.bool w A0_2 l0_2.length l0_2) (hc0_2 : l0_2.length ≤ c0_2) (hr0_3 : Kd.C (Kd.slice 4 Kd.bool) w A0_3 l0_3.length l0_3) (hc0_3 : l0_3.length ≤ c0_3) (h : spec_Speed.f k l0_0 l0_1 l0_2 l0_3 a1 a2 a3 = some r) :
  Calls Try.prog 44 #[.agg #[.slice A0_0 l0_0.length c0_0,.slice A0_1 l0_1.length c0_1,.slice A0_2 l0_2.length c0_2,.slice A0_3 l0_3.length c0_3],.int .i64 a1,.int .i64 a2,.int .i64 a3] w fun e w'=>e = .returned (.int .i64 r)∧Below w.heap.size w w':=by
 have hu27:=Try.underlying27;have HR0_0:=zm hr0_0;have HC0_0:=zm hc0_0;clear hr0_0 hc0_0;have HR0_1:=zm hr0_1;have HC0_1:=zm hc0_1;clear hr0_1 hc0_1;have HR0_2:=zm hr0_2;have HC0_2:=zm hc0_2;clear hr0_2 hc0_2;have HR0_3:=zm hr0_3;have HC0_3:=zm hc0_3;clear hr0_3 hc0_3;have HB:=zm (Below.refl w.heap.size w);have H : ((spec_Room.f k l0_0 l0_1 l0_2 l0_3 a1).bind fun t433=>(if t433 < 0 then (spec_Speed.j0 k a1 a2 a3 t433 true l0_0 l0_1 l0_2 l0_3) else ((spec_l1in.f a2 10 1000).bind fun t434=>(if t434 = true then ((spec_l1in.f a3 0 20).bind fun t435=>(spec_Speed.j0 k a1 a2 a3 t433 (!t435) l0_0 l0_1 l0_2 l0_3)) else (spec_Speed.j0 k a1 a2 a3 t433 true l0_0 l0_1 l0_2 l0_3))))) = some r:=h
 clear h;replace H:=Option.bind_eq_some_iff.mp H;obtain ⟨t433,A50,H⟩:=H;replace H : (if t433 < 0 then (spec_Speed.j0 k a1 a2 a3 t433 true l0_0 l0_1 l0_2 l0_3) else ((spec_l1in.f a2 10 1000).bind fun t434=>(if t434 = true then ((spec_l1in.f a3 0 20).bind fun t435=>(spec_Speed.j0 k a1 a2 a3 t433 (!t435) l0_0 l0_1 l0_2 l0_3)) else (spec_Speed.j0 k a1 a2 a3 t433 true l0_0 l0_1 l0_2 l0_3)))) = some r:=H
 have A5:=zm A50;clear A50;have HC6:=zm H;clear H;go_enter Try.func44,Try.ntmps44
 go_upto_region 2 with (first|((with_reducible refine zM (N:=4) rfl ?_);refine zN ?hg (N:=4) ?hd (cs:=#[.slice A0_0 l0_0.length c0_0,.slice A0_1 l0_1.length c0_1,.slice A0_2 l0_2.length c0_2,.slice A0_3 l0_3.length c0_3]) (t:=27) ?hr ?_;(case hd=>rfl);(case hg=>rfl);(case hr=>first|(go_simp;done)|(go_simp;rfl));intro gb432 hg w7 hbox hb;have n0_:=zm (zK (by repeat (first|(with_reducible first|exact HB.out|apply zA|apply zB|apply zC)|exact HB.out)) hb);have n1_:=zm (hbox);have n2_:=zm ((by rw [hg];exact (zJ (by repeat (first|(with_reducible first|exact HB.out|apply zA|apply zB|apply zC)|exact HB.out))) : w.heap.size ≤ gb432));have n3_:=zm ((by rw [hg];exact (zJ (by repeat (first|(with_reducible first|exact HB.out|apply zA|apply zB|apply zC)|exact HB.out))) : w.heap.size ≤ gb432));clear HB;have HB:=n0_;have BK432:=n1_;have GW432:=n2_;have GE432:=n3_;clear n0_ n1_ n2_ n3_;clear hb hbox hg;have hcz8_0 : w7.cell? ⟨gb432,0,none⟩ = some (.slice A0_0 l0_0.length c0_0):=(zD BK432.out 0).trans rfl;have hcz8_1 : w7.cell? ⟨gb432,1,none⟩ = some (.slice A0_1 l0_1.length c0_1):=(zD BK432.out 1).trans rfl;have hcz8_2 : w7.cell? ⟨gb432,2,none⟩ = some (.slice A0_2 l0_2.length c0_2):=(zD BK432.out 2).trans rfl;have hcz8_3 : w7.cell? ⟨gb432,3,none⟩ = some (.slice A0_3 l0_3.length c0_3):=(zD BK432.out 3).trans rfl;have hfz8_0:=zE BK432.out 0;have hfz8_1:=zE BK432.out 1;have hfz8_2:=zE BK432.out 2;have hfz8_3:=zE BK432.out 3)|((with_reducible refine gate_callee (f:=41) rfl ?_);refine goesL_ (some 16) rfl rfl Try.func41 (by kernel_rfl) rfl #[.agg #[.slice A0_0 l0_0.length c0_0,.slice A0_1 l0_1.length c0_1,.slice A0_2 l0_2.length c0_2,.slice A0_3 l0_3.length c0_3],.int .i64 a1] rfl (by (try simp only [List.map_toArray,List.map_cons,List.map_nil]);first|done|rfl|(simp only [List.length_drop,List.length_take];rfl)) ?_;(with_reducible refine (spec_Room.calls k _ _ l0_0 _ _ l0_1 _ _ l0_2 _ _ l0_3 a1 t433 _ ?side1 ?side2 ?side3 ?side4 ?side5 ?side6 ?side7 ?side8 A5.out).mono ?_);(case side1=>repeat (first|exact (zY HR0_0.out HB.out)|(with_reducible refine zT ?_ _)|(with_reducible refine zU ?_ _)|(with_reducible refine zV ?_)));(case side2=>exact HC0_0.out);(case side3=>repeat (first|exact (zY HR0_1.out HB.out)|(with_reducible refine zT ?_ _)|(with_reducible refine zU ?_ _)|(with_reducible refine zV ?_)));(case side4=>exact HC0_1.out);(case side5=>repeat (first|exact (zY HR0_2.out HB.out)|(with_reducible refine zT ?_ _)|(with_reducible refine zU ?_ _)|(with_reducible refine zV ?_)));(case side6=>exact HC0_2.out);(case side7=>repeat (first|exact (zY HR0_3.out HB.out)|(with_reducible refine zT ?_ _)|(with_reducible refine zU ?_ _)|(with_reducible refine zV ?_)));(case side8=>exact HC0_3.out);rintro e w9 ⟨rfl,hb⟩;refine ⟨_,rfl,?_⟩;have n0_:=zm (zL (g:=gb432) (o:=.cells #[.slice A0_0 l0_0.length c0_0,.slice A0_1 l0_1.length c0_1,.slice A0_2 l0_2.length c0_2,.slice A0_3 l0_3.length c0_3] 27 (0,0)) (by (with_reducible repeat (first|refine zH ?_ _|refine zI ?_|refine zG ?_ _));exact BK432.out) hb);have n1_:=zm (zK (by repeat (first|(with_reducible first|exact HB.out|apply zA|apply zB|apply zC|refine zF ?_ GE432.out)|exact HB.out)) hb);clear BK432;clear HB;have BK432:=n0_;have HB:=n1_;clear n0_ n1_;(try clear hb);(try clear hb2);(try clear hk);(try clear hi)))
 (try simp only [Act.put,List.setIfInBounds_toArray,List.set_cons_zero,List.set_cons_succ]);go_cut [28] (fun v28 wc=>∃ (kq : Nat) (x28_5 : Bool),v28 = .bool x28_5∧Aside0 (spec_Speed.j0 kq a1 a2 a3 t433 x28_5 l0_0 l0_1 l0_2 l0_3 = some r)∧Aside0 (kq ≤ k)∧Aside0 (wc.heap[gb432]? = some (.cells #[(.slice A0_0 l0_0.length c0_0),(.slice A0_1 l0_1.length c0_1),(.slice A0_2 l0_2.length c0_2),(.slice A0_3 l0_3.length c0_3)] 27 (0,0)))∧Aside0 (Below w.heap.size w wc))
 case first =>
  have H:=HC6.out;clear HC6;by_cases c10 : t433 < 0
  ·rw [if_pos c10] at H;have c10b0 : decide (t433 < 0) = true:=decide_eq_true c10;clear c10;(first|rw [c10b0]|(simp only [i64_w,i32_w];rw [c10b0])|skip)
   have H':=zm H;clear H;go_wp2;go_meet
   case rel=>exact ⟨_,(true),(by first|rfl|(simp;done)|(simp [*];done)),H',⟨by first|omega|exact Nat.le_refl _⟩,⟨by (with_reducible repeat (first|refine zH ?_ _|refine zI ?_|refine zG ?_ _));exact BK432.out⟩,⟨by repeat (first|(with_reducible first|exact HB.out|apply zA|apply zB|apply zC|refine zF ?_ GE432.out)|exact HB.out)⟩⟩
  ·rw [if_neg c10] at H;have c10b0 : decide (t433 < 0) = false:=decide_eq_false c10;clear c10;(first|rw [c10b0]|(simp only [i64_w,i32_w];rw [c10b0])|skip)
   replace H:=Option.bind_eq_some_iff.mp H;obtain ⟨t434,A110,H⟩:=H;replace H : (if t434 = true then ((spec_l1in.f a3 0 20).bind fun t435=>(spec_Speed.j0 k a1 a2 a3 t433 (!t435) l0_0 l0_1 l0_2 l0_3)) else (spec_Speed.j0 k a1 a2 a3 t433 true l0_0 l0_1 l0_2 l0_3)) = some r:=H
   have A11:=zm A110;clear A110;by_cases c12 : t434 = true
   ·subst c12
    have H1 : ((spec_l1in.f a3 0 20).bind fun t435=>(spec_Speed.j0 k a1 a2 a3 t433 (!t435) l0_0 l0_1 l0_2 l0_3)) = some r:=by rw [if_pos rfl] at H;exact H
    clear H;have H:=H1;clear H1;replace H:=Option.bind_eq_some_iff.mp H;obtain ⟨t435,A130,H⟩:=H;replace H : (spec_Speed.j0 k a1 a2 a3 t433 (!t435) l0_0 l0_1 l0_2 l0_3) = some r:=H;have A13:=zm A130;clear A130;have H':=zm H;clear H;go_wp2_with (first|(go_at_call 52;(with_reducible refine (spec_l1in.calls a2 10 1000 true _ A11.out).mono ?_);rintro e w' ⟨rfl,⟨nd,rfl⟩⟩)|(go_at_call 52;(with_reducible refine (spec_l1in.calls a3 0 20 t435 _ A13.out).mono ?_);rintro e w' ⟨rfl,⟨nd,rfl⟩⟩))
    go_meet
    case rel=>exact ⟨_,(!t435),(by first|rfl|(simp;done)|(simp [*];done)),H',⟨by first|omega|exact Nat.le_refl _⟩,⟨by (with_reducible repeat (first|refine zH ?_ _|refine zI ?_|refine zG ?_ _));exact BK432.out⟩,⟨by repeat (first|(with_reducible first|exact HB.out|apply zA|apply zB|apply zC|refine zF ?_ GE432.out)|exact HB.out)⟩⟩
   ·replace c12:=Bool.eq_false_iff.mpr c12;subst c12
    have H1 : (spec_Speed.j0 k a1 a2 a3 t433 true l0_0 l0_1 l0_2 l0_3) = some r:=by rw [if_neg (show ¬ (false = true) by decide)] at H;exact H
    clear H;have H:=H1;clear H1;have H':=zm H;clear H;go_wp2_with (first|(go_at_call 52;(with_reducible refine (spec_l1in.calls a2 10 1000 false _ A11.out).mono ?_);rintro e w' ⟨rfl,⟨nd,rfl⟩⟩))
    go_meet
    case rel=>exact ⟨_,(true),(by first|rfl|(simp;done)|(simp [*];done)),H',⟨by first|omega|exact Nat.le_refl _⟩,⟨by (with_reducible repeat (first|refine zH ?_ _|refine zI ?_|refine zG ?_ _));exact BK432.out⟩,⟨by repeat (first|(with_reducible first|exact HB.out|apply zA|apply zB|apply zC|refine zF ?_ GE432.out)|exact HB.out)⟩⟩
 case rest =>
  clear HC6;(try clear c1);(try clear p2);(try clear c4);(try clear c10);(try clear c10b0);(try clear c12);(try clear hcz8_0);(try clear hcz8_1);(try clear hcz8_2);(try clear hcz8_3);(try clear hfz8_0);(try clear hfz8_1);(try clear hfz8_2);(try clear hfz8_3);obtain ⟨kq,x28_5,rfl,HA,HJ5,BK432,HB⟩:=hcut;cases kq with
  | zero=>exact absurd HA.out (by simp [spec_Speed.j0])
  | succ kj5 =>
   have H:=HA.out;clear HA;simp only [spec_Speed.j0] at H
   by_cases c14 : x28_5 = true
   ·subst c14
    have H1 : (some (-1)) = some r:=by rw [if_pos rfl] at H;exact H
    clear H;have H:=H1;clear H1;obtain rfl:=Option.some.inj H;go_wp2;go_ret
    exact ⟨by first|rfl|(simp [errW_none,errW_some] <;> rfl)|(simp [*,errW_none,errW_some] <;> rfl),by repeat (first|(with_reducible first|exact HB.out|apply zA|apply zB|apply zC|refine zF ?_ GE432.out)|exact HB.out)⟩
   ·replace c14:=Bool.eq_false_iff.mpr c14;subst c14
    have H1 : ((spec_l2both.f kj5 l0_0 l0_1 l0_2 l0_3).bind fun bt436=>(if 0 ≤ a1 then (if a1 < (bt436.2.length : Int) then (if (rd bt436.2 a1) ≤ 0 then (some 0) else (spec_Speed.l0 kj5 a2 a3 t433 0 0)) else (none)) else (none))) = some r:=by rw [if_neg (show ¬ (false = true) by decide)] at H;exact H
    clear H;have H:=H1;clear H1;replace H:=Option.bind_eq_some_iff.mp H;obtain ⟨⟨t436,t439⟩,A150,H⟩:=H;replace H : (if 0 ≤ a1 then (if a1 < (t439.length : Int) then (if (rd t439 a1) ≤ 0 then (some 0) else (spec_Speed.l0 kj5 a2 a3 t433 0 0)) else (none)) else (none)) = some r:=H;have A15:=zm A150;clear A150;by_cases c16 : 0 ≤ a1
    ·rw [if_pos c16] at H;have c16b0 : decide (0 ≤ a1) = true:=decide_eq_true c16;clear c16;by_cases c17 : a1 < (t439.length : Int)
     ·rw [if_pos c17] at H;have c17b0 : decide (a1 < (t439.length : Int)) = true:=decide_eq_true c17;clear c17;by_cases c18 : (rd t439 a1) ≤ 0
      ·rw [if_pos c18] at H;have c18b0 : decide ((rd t439 a1) ≤ 0) = true:=decide_eq_true c18;clear c18;obtain rfl:=Option.some.inj H;have hcz19_0 : wc.cell? ⟨gb432,0,none⟩ = some (.slice A0_0 l0_0.length c0_0):=(zD BK432.out 0).trans rfl;have hcz19_1 : wc.cell? ⟨gb432,1,none⟩ = some (.slice A0_1 l0_1.length c0_1):=(zD BK432.out 1).trans rfl;have hcz19_2 : wc.cell? ⟨gb432,2,none⟩ = some (.slice A0_2 l0_2.length c0_2):=(zD BK432.out 2).trans rfl;have hcz19_3 : wc.cell? ⟨gb432,3,none⟩ = some (.slice A0_3 l0_3.length c0_3):=(zD BK432.out 3).trans rfl;have hfz19_0:=zE BK432.out 0;have hfz19_1:=zE BK432.out 1;have hfz19_2:=zE BK432.out 2;have hfz19_3:=zE BK432.out 3;go_wp2_with (first|((with_reducible refine gate_callee (f:=61) rfl ?_);refine goesL_ (some 31) rfl rfl Try.func61 (by kernel_rfl) rfl #[.agg #[.slice A0_0 l0_0.length c0_0,.slice A0_1 l0_1.length c0_1,.slice A0_2 l0_2.length c0_2,.slice A0_3 l0_3.length c0_3]] rfl (by (try simp only [List.map_toArray,List.map_cons,List.map_nil]);first|done|rfl|(simp only [List.length_drop,List.length_take];rfl)) ?_;(with_reducible refine (spec_l2both.calls kj5 _ _ l0_0 _ _ l0_1 _ _ l0_2 _ _ l0_3 t436 t439 _ ?side1 ?side2 ?side3 ?side4 ?side5 ?side6 ?side7 ?side8 A15.out).mono ?_);(case side1=>repeat (first|exact (zY HR0_0.out HB.out)|(with_reducible refine zT ?_ _)|(with_reducible refine zU ?_ _)|(with_reducible refine zV ?_)));(case side2=>exact HC0_0.out);(case side3=>repeat (first|exact (zY HR0_1.out HB.out)|(with_reducible refine zT ?_ _)|(with_reducible refine zU ?_ _)|(with_reducible refine zV ?_)));(case side4=>exact HC0_1.out);(case side5=>repeat (first|exact (zY HR0_2.out HB.out)|(with_reducible refine zT ?_ _)|(with_reducible refine zU ?_ _)|(with_reducible refine zV ?_)));(case side6=>exact HC0_2.out);(case side7=>repeat (first|exact (zY HR0_3.out HB.out)|(with_reducible refine zT ?_ _)|(with_reducible refine zU ?_ _)|(with_reducible refine zV ?_)));(case side8=>exact HC0_3.out);rintro e w20 ⟨v437,v440,rfl,ho0,ho1,hb⟩;refine ⟨_,rfl,?_⟩;have n0_:=zm (zZ ho0 (zJ (by repeat (first|(with_reducible first|exact HB.out|apply zA|apply zB|apply zC|refine zF ?_ GE432.out)|exact HB.out))));have n1_:=zm (zZ ho1 (zJ (by repeat (first|(with_reducible first|exact HB.out|apply zA|apply zB|apply zC|refine zF ?_ GE432.out)|exact HB.out))));have n2_:=zm (zL (g:=gb432) (o:=.cells #[.slice A0_0 l0_0.length c0_0,.slice A0_1 l0_1.length c0_1,.slice A0_2 l0_2.length c0_2,.slice A0_3 l0_3.length c0_3] 27 (0,0)) (by (with_reducible repeat (first|refine zH ?_ _|refine zI ?_|refine zG ?_ _));exact BK432.out) hb);have n3_:=zm (zK (by repeat (first|(with_reducible first|exact HB.out|apply zA|apply zB|apply zC|refine zF ?_ GE432.out)|exact HB.out)) hb);clear BK432;clear HB;have HO438:=n0_;have HO441:=n1_;have BK432:=n2_;have HB:=n3_;clear n0_ n1_ n2_ n3_;(try clear hb);(try clear hb2);(try clear hk);(try clear hi);(try clear ho0);(try clear ho1);obtain ⟨Ao21,co21,eo21⟩:=zAb HO441.out;subst eo21;have p442 : 0 ≤ (a1 : Int):=of_decide_eq_true (by first|(with_reducible assumption)|assumption);have q442 : a1 < (t439.length : Int):=of_decide_eq_true (by first|(with_reducible assumption)|assumption);obtain ⟨ad442,e442,hx442_0⟩:=Kd.at_int (zW HO441.out).2.2 a1 p442 q442;cases e442;replace p442:=eq_true p442;replace q442:=eq_true q442))
       go_ret
       exact ⟨by first|rfl|(simp [errW_none,errW_some] <;> rfl)|(simp [*,errW_none,errW_some] <;> rfl),by repeat (first|(with_reducible first|exact HB.out|apply zA|apply zB|apply zC|refine zF ?_ GE432.out)|exact HB.out)⟩
      ·rw [if_neg c18] at H;have c18b0 : decide ((rd t439 a1) ≤ 0) = false:=decide_eq_false c18;clear c18;have H':=zm H;clear H;have hcz22_0 : wc.cell? ⟨gb432,0,none⟩ = some (.slice A0_0 l0_0.length c0_0):=(zD BK432.out 0).trans rfl;have hcz22_1 : wc.cell? ⟨gb432,1,none⟩ = some (.slice A0_1 l0_1.length c0_1):=(zD BK432.out 1).trans rfl;have hcz22_2 : wc.cell? ⟨gb432,2,none⟩ = some (.slice A0_2 l0_2.length c0_2):=(zD BK432.out 2).trans rfl;have hcz22_3 : wc.cell? ⟨gb432,3,none⟩ = some (.slice A0_3 l0_3.length c0_3):=(zD BK432.out 3).trans rfl;have hfz22_0:=zE BK432.out 0;have hfz22_1:=zE BK432.out 1;have hfz22_2:=zE BK432.out 2;have hfz22_3:=zE BK432.out 3;go_wp2_with (first|((with_reducible refine gate_callee (f:=61) rfl ?_);refine goesL_ (some 31) rfl rfl Try.func61 (by kernel_rfl) rfl #[.agg #[.slice A0_0 l0_0.length c0_0,.slice A0_1 l0_1.length c0_1,.slice A0_2 l0_2.length c0_2,.slice A0_3 l0_3.length c0_3]] rfl (by (try simp only [List.map_toArray,List.map_cons,List.map_nil]);first|done|rfl|(simp only [List.length_drop,List.length_take];rfl)) ?_;(with_reducible refine (spec_l2both.calls kj5 _ _ l0_0 _ _ l0_1 _ _ l0_2 _ _ l0_3 t436 t439 _ ?side1 ?side2 ?side3 ?side4 ?side5 ?side6 ?side7 ?side8 A15.out).mono ?_);(case side1=>repeat (first|exact (zY HR0_0.out HB.out)|(with_reducible refine zT ?_ _)|(with_reducible refine zU ?_ _)|(with_reducible refine zV ?_)));(case side2=>exact HC0_0.out);(case side3=>repeat (first|exact (zY HR0_1.out HB.out)|(with_reducible refine zT ?_ _)|(with_reducible refine zU ?_ _)|(with_reducible refine zV ?_)));(case side4=>exact HC0_1.out);(case side5=>repeat (first|exact (zY HR0_2.out HB.out)|(with_reducible refine zT ?_ _)|(with_reducible refine zU ?_ _)|(with_reducible refine zV ?_)));(case side6=>exact HC0_2.out);(case side7=>repeat (first|exact (zY HR0_3.out HB.out)|(with_reducible refine zT ?_ _)|(with_reducible refine zU ?_ _)|(with_reducible refine zV ?_)));(case side8=>exact HC0_3.out);rintro e w23 ⟨v437,v440,rfl,ho0,ho1,hb⟩;refine ⟨_,rfl,?_⟩;have n0_:=zm (zZ ho0 (zJ (by repeat (first|(with_reducible first|exact HB.out|apply zA|apply zB|apply zC|refine zF ?_ GE432.out)|exact HB.out))));have n1_:=zm (zZ ho1 (zJ (by repeat (first|(with_reducible first|exact HB.out|apply zA|apply zB|apply zC|refine zF ?_ GE432.out)|exact HB.out))));have n2_:=zm (zL (g:=gb432) (o:=.cells #[.slice A0_0 l0_0.length c0_0,.slice A0_1 l0_1.length c0_1,.slice A0_2 l0_2.length c0_2,.slice A0_3 l0_3.length c0_3] 27 (0,0)) (by (with_reducible repeat (first|refine zH ?_ _|refine zI ?_|refine zG ?_ _));exact BK432.out) hb);have n3_:=zm (zK (by repeat (first|(with_reducible first|exact HB.out|apply zA|apply zB|apply zC|refine zF ?_ GE432.out)|exact HB.out)) hb);clear BK432;clear HB;have HO438:=n0_;have HO441:=n1_;have BK432:=n2_;have HB:=n3_;clear n0_ n1_ n2_ n3_;(try clear hb);(try clear hb2);(try clear hk);(try clear hi);(try clear ho0);(try clear ho1);obtain ⟨Ao24,co24,eo24⟩:=zAb HO441.out;subst eo24;have p442 : 0 ≤ (a1 : Int):=of_decide_eq_true (by first|(with_reducible assumption)|assumption);have q442 : a1 < (t439.length : Int):=of_decide_eq_true (by first|(with_reducible assumption)|assumption);obtain ⟨ad442,e442,hx442_0⟩:=Kd.at_int (zW HO441.out).2.2 a1 p442 q442;cases e442;replace p442:=eq_true p442;replace q442:=eq_true q442))
       go_loopg [12,13] kj5 (fun kq v12 v13 w'=>∃ (x12_2 : Int) (x13_2 : Int),v12 = .int .i64 x12_2∧v13 = .int .i64 x13_2∧Aside0 (spec_Speed.l0 kq a2 a3 t433 x12_2 x13_2 = some r)∧Aside0 (kq ≤ kj5)∧Aside0 (w'.heap[gb432]? = some (.cells #[(.slice A0_0 l0_0.length c0_0),(.slice A0_1 l0_1.length c0_1),(.slice A0_2 l0_2.length c0_2),(.slice A0_3 l0_3.length c0_3)] 27 (0,0)))∧Aside0 (Below w.heap.size w w'))
       case atStart=>exact ⟨(0),(0),(by first|rfl|(simp;done)|(simp [*];done)),(by first|rfl|(simp;done)|(simp [*];done)),H',⟨Nat.le_refl _⟩,⟨by (with_reducible repeat (first|refine zH ?_ _|refine zI ?_|refine zG ?_ _));exact BK432.out⟩,⟨by repeat (first|(with_reducible first|exact HB.out|apply zA|apply zB|apply zC|refine zF ?_ GE432.out)|exact HB.out)⟩⟩
       case round =>
        clear H';(try clear c1);(try clear p2);(try clear c4);(try clear p4);(try clear q4);(try clear hx4);(try clear c6);(try clear c10);(try clear c10b0);(try clear c12);(try clear c14);(try clear c16);(try clear c16b0);(try clear c17);(try clear c17b0);(try clear c18);(try clear c18b0);(try clear hcz19_0);(try clear hcz19_1);(try clear hcz19_2);(try clear hcz19_3);(try clear hcz22_0);(try clear hcz22_1);(try clear hcz22_2);(try clear hcz22_3);(try clear hcz8_0);(try clear hcz8_1);(try clear hcz8_2);(try clear hcz8_3);(try clear hfz19_0);(try clear hfz19_1);(try clear hfz19_2);(try clear hfz19_3);(try clear hfz22_0);(try clear hfz22_1);(try clear hfz22_2);(try clear hfz22_3);(try clear hfz8_0);(try clear hfz8_1);(try clear hfz8_2);(try clear hfz8_3);(try clear hx442_0);(try clear p2);(try clear p442);(try clear q442);obtain ⟨x12_2,x13_2,rfl,rfl,HA,HK2,BK432,HB⟩:=hrel;cases gk with
        | zero=>exact absurd HA.out (by simp [spec_Speed.l0])
        | succ k2 =>
         have H:=HA.out;clear HA;simp only [spec_Speed.l0] at H
         by_cases c25 : x13_2 ≤ 10000
         ·rw [if_pos c25] at H;have c25b0 : decide (x13_2 ≤ 10000) = true:=decide_eq_true c25;clear c25;replace H:=Option.bind_eq_some_iff.mp H;obtain ⟨t443,A260,H⟩:=H;replace H : (if (wrap64 ((wrap64 (a3 * x13_2)) + t443)) > t433 then (some x12_2) else (spec_Speed.l0 k2 a2 a3 t433 x13_2 (wrap64 (x13_2 + 1)))) = some r:=H;have A26:=zm A260;clear A260;by_cases c27 : (wrap64 ((wrap64 (a3 * x13_2)) + t443)) > t433
          ·rw [if_pos c27] at H;have c27b0 : decide (t433 < (wrap64 ((wrap64 (a3 * x13_2)) + t443))) = true:=decide_eq_true c27;clear c27;obtain rfl:=Option.some.inj H;go_wp2_with (first|((with_reducible refine gate_callee (f:=65) rfl ?_);refine goesL_ (some 48) rfl rfl Try.func65 (by kernel_rfl) rfl #[.int .i64 x13_2,.int .i64 a2] rfl (by (try simp only [List.map_toArray,List.map_cons,List.map_nil]);first|done|rfl|(simp only [List.length_drop,List.length_take];rfl)) ?_;(with_reducible refine (spec_l3slow.calls k2 x13_2 a2 t443 _ A26.out).mono ?_);rintro e w' ⟨rfl,⟨nd,rfl⟩⟩;refine ⟨_,rfl,?_⟩))
           go_ret
           exact ⟨by first|rfl|(simp [errW_none,errW_some] <;> rfl)|(simp [*,errW_none,errW_some] <;> rfl),by repeat (first|(with_reducible first|exact HB.out|apply zA|apply zB|apply zC|refine zF ?_ GE432.out)|exact HB.out)⟩
          ·rw [if_neg c27] at H;have c27b0 : decide (t433 < (wrap64 ((wrap64 (a3 * x13_2)) + t443))) = false:=decide_eq_false c27;clear c27;have H':=zm H;clear H;go_wp2_with (first|((with_reducible refine gate_callee (f:=65) rfl ?_);refine goesL_ (some 48) rfl rfl Try.func65 (by kernel_rfl) rfl #[.int .i64 x13_2,.int .i64 a2] rfl (by (try simp only [List.map_toArray,List.map_cons,List.map_nil]);first|done|rfl|(simp only [List.length_drop,List.length_take];rfl)) ?_;(with_reducible refine (spec_l3slow.calls k2 x13_2 a2 t443 _ A26.out).mono ?_);rintro e w' ⟨rfl,⟨nd,rfl⟩⟩;refine ⟨_,rfl,?_⟩))
           go_roundg k2
           case measure=>have:=HJ5.out;have:=HK2.out;omega
           case rel=>exact ⟨(x13_2),(wrap64 (x13_2 + 1)),(by first|rfl|(simp;done)|(simp [*];done)),(by first|rfl|(simp;done)|(simp [*];done)),H',⟨by have:=HJ5.out;have:=HK2.out;omega⟩,⟨by (with_reducible repeat (first|refine zH ?_ _|refine zI ?_|refine zG ?_ _));exact BK432.out⟩,⟨by repeat (first|(with_reducible first|exact HB.out|apply zA|apply zB|apply zC|refine zF ?_ GE432.out)|exact HB.out)⟩⟩
         ·rw [if_neg c25] at H;have c25b0 : decide (x13_2 ≤ 10000) = false:=decide_eq_false c25;clear c25;obtain rfl:=Option.some.inj H;go_wp2;go_ret
          exact ⟨by first|rfl|(simp [errW_none,errW_some] <;> rfl)|(simp [*,errW_none,errW_some] <;> rfl),by repeat (first|(with_reducible first|exact HB.out|apply zA|apply zB|apply zC|refine zF ?_ GE432.out)|exact HB.out)⟩
     ·rw [if_neg c17] at H;exact absurd H (by simp)
    ·rw [if_neg c16] at H;exact absurd H (by simp)

end Go.Proofs.Ytpdcghclcgbcfaa.P
