-- written by a program of this session (after the kit's print), not trusted: Lean checks it
import Derived.Test.YtpdcghclcgbcfaaPx0
import Derived.Test.YtpdcghclcgbcfaaPx4
import Derived.Test.YtpdcghclcgbcfaaPx7
namespace Go.Proofs.Ytpdcghclcgbcfaa.P
open Go.RowKit Go.Proofs.YtpdcghclcgbcfaaW.PrintWords Go.Proofs.YtpdcghclcgbcfaaW.PrintLast Go.Proofs.YtpdcghclcgbcfaaW.PrintMore
open Go.Proofs.YtpdcghclcgbcfaaW.PrintWords renaming below_alloc → zA, below_drew1 → zC, below_set → zF, below_size → zJ, below_step → zK, blk_alloc → zG, blk_below → zL, blk_cell → zD, blk_drew → zI, blk_drewN → zH, blk_frozen → zE, box_event → zN, gate_dst → zM, pw_below_drewN → zB
open Go.Proofs.YtpdcghclcgbcfaaW.PrintWords.Kd renaming C_alloc → zT, C_below → zY, C_drew → zV, C_drewN → zU, R_alloc → zP, R_drew → zR, R_drewN → zQ, R_lower → zZ, R_reads' → zW, R_slice → zAb
open Go.Proofs.YtpdcghclcgbcfaaW.PrintWords.Aside0 renaming mk → zm
attribute [local go_sem] max2_int min2_int max_two min_two max_three min_three max_four min_four   -- for this text's walks alone
set_option linter.unusedVariables false
set_option linter.unusedSimpArgs false

/-! ### impl_Stop: function 40 -/
mutual
def impl_Stop.l0 : Nat→Int→List Int→Int→Int→List Int→List Int→List Bool→List (List Bool)→Option (Int)
 | 0,_,_,_,_,_,_,_,_=>none
 | k + 1,x1,x5,x6,x7,x366000,x366001,x366002,x366003=>if x1 = (-1) then (impl_Stop.j1 k x1 x5 x6 x7 false x366000 x366001 x366002 x366003) else (if 0 ≤ x1 then (if x1 < (x5.length : Int) then (impl_Stop.j1 k x1 x5 x6 x7 (decide ((rd x5 x1) > 0)) x366000 x366001 x366002 x366003) else (none)) else (none))
def impl_Stop.j1 : Nat→Int→List Int→Int→Int→Bool→List Int→List Int→List Bool→List (List Bool)→Option (Int)
 | 0,_,_,_,_,_,_,_,_,_=>none
 | k + 1,x1,x5,x6,x7,x22,x366000,x366001,x366002,x366003=>if x22 = true then (if x7 > (x366000.length : Int) then (some (-2)) else (if 0 ≤ x1 then (if x1 < (x366001.length : Int) then (if x1 < (x366000.length : Int) then (impl_Stop.l0 k (rd x366000 x1) x5 (wrap64 (x6 + (rd x366001 x1))) (wrap64 (x7 + 1)) x366000 x366001 x366002 x366003) else (none)) else (none)) else (none))) else (some x6)
end
def impl_Stop.f (k : Nat) (l0_0 : List Int) (l0_1 : List Int) (l0_2 : List Bool) (l0_3 : List (List Bool)) (a1 : Int) : Option (Int):=(impl_there.f k l0_0 l0_1 l0_2 l0_3 a1).bind fun t366=>(if t366 = true then ((impl_Shows.f k l0_0 l0_1 l0_2 l0_3).bind fun t367=>(impl_Stop.l0 k a1 t367 0 0 l0_0 l0_1 l0_2 l0_3)) else (some (-1)))
theorem impl_Stop.mono_l : ∀ k,(∀ y0 y1 y2 y3 y4 y5 y6 y7,LeO (impl_Stop.l0 k y0 y1 y2 y3 y4 y5 y6 y7) (impl_Stop.l0 (k + 1) y0 y1 y2 y3 y4 y5 y6 y7))∧(∀ y0 y1 y2 y3 y4 y5 y6 y7 y8,LeO (impl_Stop.j1 k y0 y1 y2 y3 y4 y5 y6 y7 y8) (impl_Stop.j1 (k + 1) y0 y1 y2 y3 y4 y5 y6 y7 y8))
 | 0=>⟨fun _ _ _ _ _ _ _ _ r h=>by simp [impl_Stop.l0] at h,fun _ _ _ _ _ _ _ _ _ r h=>by simp [impl_Stop.j1] at h⟩
 | k + 1=>by
  obtain ⟨ih0,ih1⟩:=impl_Stop.mono_l k;refine ⟨?_,?_⟩
  ·intro y0 y1 y2 y3 y4 y5 y6 y7
   unfold impl_Stop.l0
   repeat' first
   | (with_reducible exact ih0 _ _ _ _ _ _ _ _)
   | (with_reducible exact ih1 _ _ _ _ _ _ _ _ _)
   | (with_reducible exact impl_Shows.mono _ _ _ _ _)
   | (with_reducible exact impl_there.mono _ _ _ _ _ _)
   | (with_reducible exact LeO.refl _)
   | (with_reducible exact LeO.none _)
   | (with_reducible refine LeO.ite ?_ ?_)
   | (with_reducible refine LeO.bind ?_ (fun _=>?_))
   | exact ih0 _ _ _ _ _ _ _ _
   | exact ih1 _ _ _ _ _ _ _ _ _
   | exact impl_Shows.mono _ _ _ _ _
   | exact impl_there.mono _ _ _ _ _ _
   | exact LeO.none _
   | refine LeO.ite ?_ ?_
   | refine LeO.bind ?_ (fun _=>?_)
  ·intro y0 y1 y2 y3 y4 y5 y6 y7 y8
   unfold impl_Stop.j1
   repeat' first
   | (with_reducible exact ih0 _ _ _ _ _ _ _ _)
   | (with_reducible exact ih1 _ _ _ _ _ _ _ _ _)
   | (with_reducible exact impl_Shows.mono _ _ _ _ _)
   | (with_reducible exact impl_there.mono _ _ _ _ _ _)
   | (with_reducible exact LeO.refl _)
   | (with_reducible exact LeO.none _)
   | (with_reducible refine LeO.ite ?_ ?_)
   | (with_reducible refine LeO.bind ?_ (fun _=>?_))
   | exact ih0 _ _ _ _ _ _ _ _
   | exact ih1 _ _ _ _ _ _ _ _ _
   | exact impl_Shows.mono _ _ _ _ _
   | exact impl_there.mono _ _ _ _ _ _
   | exact LeO.none _
   | refine LeO.ite ?_ ?_
   | refine LeO.bind ?_ (fun _=>?_)
theorem impl_Stop.mono : ∀ a0 a1 a2 a3 a4 k,LeO (impl_Stop.f k a0 a1 a2 a3 a4) (impl_Stop.f (k + 1) a0 a1 a2 a3 a4):=by
 intro a0 a1 a2 a3 a4 k
 obtain ⟨ih0,ih1⟩:=impl_Stop.mono_l k;unfold impl_Stop.f
 repeat' first
   | (with_reducible exact ih0 _ _ _ _ _ _ _ _)
   | (with_reducible exact ih1 _ _ _ _ _ _ _ _ _)
   | (with_reducible exact impl_Shows.mono _ _ _ _ _)
   | (with_reducible exact impl_there.mono _ _ _ _ _ _)
   | (with_reducible exact LeO.refl _)
   | (with_reducible exact LeO.none _)
   | (with_reducible refine LeO.ite ?_ ?_)
   | (with_reducible refine LeO.bind ?_ (fun _=>?_))
   | exact ih0 _ _ _ _ _ _ _ _
   | exact ih1 _ _ _ _ _ _ _ _ _
   | exact impl_Shows.mono _ _ _ _ _
   | exact impl_there.mono _ _ _ _ _ _
   | exact LeO.none _
   | refine LeO.ite ?_ ?_
   | refine LeO.bind ?_ (fun _=>?_)
set_option maxHeartbeats 8000000 in
set_option maxRecDepth 100000 in
theorem impl_Stop.calls (k : Nat) (A0_0 : Option Addr) (c0_0 : Nat) (l0_0 : List Int) (A0_1 : Option Addr) (c0_1 : Nat) (l0_1 : List Int) (A0_2 : Option Addr) (c0_2 : Nat) (l0_2 : List Bool) (A0_3 : Option Addr) (c0_3 : Nat) (l0_3 : List (List Bool)) (a1 : Int) (r : Int) (w : World) (hr0_0 : Kd.C (Kd.int .i64) w A0_0 l0_0.length l0_0) (hc0_0 : l0_0.length ≤ c0_0) (hr0_1 : Kd.C (Kd.int .i64) w A0_1 l0_1.length l0_1) (hc0_1 : l0_1.length ≤ c0_1) (hr0_2 : Kd.C Kd.bool w A0_2 l0_2.length l0_2) (hc0_2 : l0_2.length ≤ c0_2) (hr0_3 : Kd.C (Kd.slice 4 Kd.bool) w A0_3 l0_3.length l0_3) (hc0_3 : l0_3.length ≤ c0_3) (h : impl_Stop.f k l0_0 l0_1 l0_2 l0_3 a1 = some r) :
  Calls Try.prog 40 #[.agg #[.slice A0_0 l0_0.length c0_0,.slice A0_1 l0_1.length c0_1,.slice A0_2 l0_2.length c0_2,.slice A0_3 l0_3.length c0_3],.int .i64 a1] w fun e w'=>e = .returned (.int .i64 r)∧Below w.heap.size w w':=by
 have hu27:=Try.underlying27;have HR0_0:=zm hr0_0;have HC0_0:=zm hc0_0;clear hr0_0 hc0_0;have HR0_1:=zm hr0_1;have HC0_1:=zm hc0_1;clear hr0_1 hc0_1;have HR0_2:=zm hr0_2;have HC0_2:=zm hc0_2;clear hr0_2 hc0_2;have HR0_3:=zm hr0_3;have HC0_3:=zm hc0_3;clear hr0_3 hc0_3;have HB:=zm (Below.refl w.heap.size w);have H : ((impl_there.f k l0_0 l0_1 l0_2 l0_3 a1).bind fun t366=>(if t366 = true then ((impl_Shows.f k l0_0 l0_1 l0_2 l0_3).bind fun t367=>(impl_Stop.l0 k a1 t367 0 0 l0_0 l0_1 l0_2 l0_3)) else (some (-1)))) = some r:=h
 clear h;replace H:=Option.bind_eq_some_iff.mp H;obtain ⟨t366,A30,H⟩:=H;replace H : (if t366 = true then ((impl_Shows.f k l0_0 l0_1 l0_2 l0_3).bind fun t367=>(impl_Stop.l0 k a1 t367 0 0 l0_0 l0_1 l0_2 l0_3)) else (some (-1))) = some r:=H
 have A3:=zm A30;clear A30;by_cases c4 : t366 = true
 ·subst c4
  have H1 : ((impl_Shows.f k l0_0 l0_1 l0_2 l0_3).bind fun t367=>(impl_Stop.l0 k a1 t367 0 0 l0_0 l0_1 l0_2 l0_3)) = some r:=by rw [if_pos rfl] at H;exact H
  clear H;have H:=H1;clear H1;replace H:=Option.bind_eq_some_iff.mp H;obtain ⟨t367,A50,H⟩:=H;replace H : (impl_Stop.l0 k a1 t367 0 0 l0_0 l0_1 l0_2 l0_3) = some r:=H;have A5:=zm A50;clear A50;have H':=zm H;clear H;go_enter Try.func40,Try.ntmps40
  go_wp2_with (first|((with_reducible refine zM (N:=2) rfl ?_);refine zN ?hg (N:=2) ?hd (cs:=#[.slice A0_0 l0_0.length c0_0,.slice A0_1 l0_1.length c0_1,.slice A0_2 l0_2.length c0_2,.slice A0_3 l0_3.length c0_3]) (t:=27) ?hr ?_;(case hd=>rfl);(case hg=>rfl);(case hr=>first|(go_simp;done)|(go_simp;rfl));intro gb365 hg w6 hbox hb;have n0_:=zm (zK (by repeat (first|(with_reducible first|exact HB.out|apply zA|apply zB|apply zC)|exact HB.out)) hb);have n1_:=zm (hbox);have n2_:=zm ((by rw [hg];exact (zJ (by repeat (first|(with_reducible first|exact HB.out|apply zA|apply zB|apply zC)|exact HB.out))) : w.heap.size ≤ gb365));have n3_:=zm ((by rw [hg];exact (zJ (by repeat (first|(with_reducible first|exact HB.out|apply zA|apply zB|apply zC)|exact HB.out))) : w.heap.size ≤ gb365));clear HB;have HB:=n0_;have BK365:=n1_;have GW365:=n2_;have GE365:=n3_;clear n0_ n1_ n2_ n3_;clear hb hbox hg;have hcz7_0 : w6.cell? ⟨gb365,0,none⟩ = some (.slice A0_0 l0_0.length c0_0):=(zD BK365.out 0).trans rfl;have hcz7_1 : w6.cell? ⟨gb365,1,none⟩ = some (.slice A0_1 l0_1.length c0_1):=(zD BK365.out 1).trans rfl;have hcz7_2 : w6.cell? ⟨gb365,2,none⟩ = some (.slice A0_2 l0_2.length c0_2):=(zD BK365.out 2).trans rfl;have hcz7_3 : w6.cell? ⟨gb365,3,none⟩ = some (.slice A0_3 l0_3.length c0_3):=(zD BK365.out 3).trans rfl;have hfz7_0:=zE BK365.out 0;have hfz7_1:=zE BK365.out 1;have hfz7_2:=zE BK365.out 2;have hfz7_3:=zE BK365.out 3)|((with_reducible refine gate_callee (f:=58) rfl ?_);refine goesL_ (some 10) rfl rfl Try.func58 (by kernel_rfl) rfl #[.agg #[.slice A0_0 l0_0.length c0_0,.slice A0_1 l0_1.length c0_1,.slice A0_2 l0_2.length c0_2,.slice A0_3 l0_3.length c0_3],.int .i64 a1] rfl (by (try simp only [List.map_toArray,List.map_cons,List.map_nil]);first|done|rfl|(simp only [List.length_drop,List.length_take];rfl)) ?_;(with_reducible refine (impl_there.calls k _ _ l0_0 _ _ l0_1 _ _ l0_2 _ _ l0_3 a1 true _ ?side1 ?side2 ?side3 ?side4 ?side5 ?side6 ?side7 ?side8 A3.out).mono ?_);(case side1=>repeat (first|exact (zY HR0_0.out HB.out)|(with_reducible refine zT ?_ _)|(with_reducible refine zU ?_ _)|(with_reducible refine zV ?_)));(case side2=>exact HC0_0.out);(case side3=>repeat (first|exact (zY HR0_1.out HB.out)|(with_reducible refine zT ?_ _)|(with_reducible refine zU ?_ _)|(with_reducible refine zV ?_)));(case side4=>exact HC0_1.out);(case side5=>repeat (first|exact (zY HR0_2.out HB.out)|(with_reducible refine zT ?_ _)|(with_reducible refine zU ?_ _)|(with_reducible refine zV ?_)));(case side6=>exact HC0_2.out);(case side7=>repeat (first|exact (zY HR0_3.out HB.out)|(with_reducible refine zT ?_ _)|(with_reducible refine zU ?_ _)|(with_reducible refine zV ?_)));(case side8=>exact HC0_3.out);rintro e w8 ⟨rfl,hb⟩;refine ⟨_,rfl,?_⟩;have n0_:=zm (zL (g:=gb365) (o:=.cells #[.slice A0_0 l0_0.length c0_0,.slice A0_1 l0_1.length c0_1,.slice A0_2 l0_2.length c0_2,.slice A0_3 l0_3.length c0_3] 27 (0,0)) (by (with_reducible repeat (first|refine zH ?_ _|refine zI ?_|refine zG ?_ _));exact BK365.out) hb);have n1_:=zm (zK (by repeat (first|(with_reducible first|exact HB.out|apply zA|apply zB|apply zC|refine zF ?_ GE365.out)|exact HB.out)) hb);clear BK365;clear HB;have BK365:=n0_;have HB:=n1_;clear n0_ n1_;(try clear hb);(try clear hb2);(try clear hk);(try clear hi);have hcz9_0 : w8.cell? ⟨gb365,0,none⟩ = some (.slice A0_0 l0_0.length c0_0):=(zD BK365.out 0).trans rfl;have hcz9_1 : w8.cell? ⟨gb365,1,none⟩ = some (.slice A0_1 l0_1.length c0_1):=(zD BK365.out 1).trans rfl;have hcz9_2 : w8.cell? ⟨gb365,2,none⟩ = some (.slice A0_2 l0_2.length c0_2):=(zD BK365.out 2).trans rfl;have hcz9_3 : w8.cell? ⟨gb365,3,none⟩ = some (.slice A0_3 l0_3.length c0_3):=(zD BK365.out 3).trans rfl;have hfz9_0:=zE BK365.out 0;have hfz9_1:=zE BK365.out 1;have hfz9_2:=zE BK365.out 2;have hfz9_3:=zE BK365.out 3)|((with_reducible refine gate_callee (f:=16) rfl ?_);refine goesL_ (some 13) rfl rfl Try.func16 (by kernel_rfl) rfl #[.agg #[.slice A0_0 l0_0.length c0_0,.slice A0_1 l0_1.length c0_1,.slice A0_2 l0_2.length c0_2,.slice A0_3 l0_3.length c0_3]] rfl (by (try simp only [List.map_toArray,List.map_cons,List.map_nil]);first|done|rfl|(simp only [List.length_drop,List.length_take];rfl)) ?_;(with_reducible refine (impl_Shows.calls k _ _ l0_0 _ _ l0_1 _ _ l0_2 _ _ l0_3 t367 _ ?side1 ?side2 ?side3 ?side4 ?side5 ?side6 ?side7 ?side8 A5.out).mono ?_);(case side1=>repeat (first|exact (zY HR0_0.out HB.out)|(with_reducible refine zT ?_ _)|(with_reducible refine zU ?_ _)|(with_reducible refine zV ?_)));(case side2=>exact HC0_0.out);(case side3=>repeat (first|exact (zY HR0_1.out HB.out)|(with_reducible refine zT ?_ _)|(with_reducible refine zU ?_ _)|(with_reducible refine zV ?_)));(case side4=>exact HC0_1.out);(case side5=>repeat (first|exact (zY HR0_2.out HB.out)|(with_reducible refine zT ?_ _)|(with_reducible refine zU ?_ _)|(with_reducible refine zV ?_)));(case side6=>exact HC0_2.out);(case side7=>repeat (first|exact (zY HR0_3.out HB.out)|(with_reducible refine zT ?_ _)|(with_reducible refine zU ?_ _)|(with_reducible refine zV ?_)));(case side8=>exact HC0_3.out);rintro e w10 ⟨v368,rfl,ho0,hb⟩;refine ⟨_,rfl,?_⟩;have n0_:=zm (zZ ho0 (zJ (by repeat (first|(with_reducible first|exact HB.out|apply zA|apply zB|apply zC|refine zF ?_ GE365.out)|exact HB.out))));have n1_:=zm (zL (g:=gb365) (o:=.cells #[.slice A0_0 l0_0.length c0_0,.slice A0_1 l0_1.length c0_1,.slice A0_2 l0_2.length c0_2,.slice A0_3 l0_3.length c0_3] 27 (0,0)) (by (with_reducible repeat (first|refine zH ?_ _|refine zI ?_|refine zG ?_ _));exact BK365.out) hb);have n2_:=zm (zK (by repeat (first|(with_reducible first|exact HB.out|apply zA|apply zB|apply zC|refine zF ?_ GE365.out)|exact HB.out)) hb);clear BK365;clear HB;have HO369:=n0_;have BK365:=n1_;have HB:=n2_;clear n0_ n1_ n2_;(try clear hb);(try clear hb2);(try clear hk);(try clear hi);(try clear ho0)))
  go_loopg [1,6,7] k (fun kq v1 v6 v7 w'=>∃ (x1_1 : Int) (x6_1 : Int) (x7_1 : Int),v1 = .int .i64 x1_1∧v6 = .int .i64 x6_1∧v7 = .int .i64 x7_1∧Aside0 (impl_Stop.l0 kq x1_1 t367 x6_1 x7_1 l0_0 l0_1 l0_2 l0_3 = some r)∧Aside0 (kq ≤ k)∧Aside0 (Kd.R (Kd.int .i64) 3 w' w.heap.size (fun _=>True) v368 t367)∧Aside0 (w'.heap[gb365]? = some (.cells #[(.slice A0_0 l0_0.length c0_0),(.slice A0_1 l0_1.length c0_1),(.slice A0_2 l0_2.length c0_2),(.slice A0_3 l0_3.length c0_3)] 27 (0,0)))∧Aside0 (Below w.heap.size w w'))
  case atStart=>exact ⟨(a1),(0),(0),(by first|rfl|(simp;done)|(simp [*];done)),(by first|rfl|(simp;done)|(simp [*];done)),(by first|rfl|(simp;done)|(simp [*];done)),H',⟨Nat.le_refl _⟩,⟨by (with_reducible repeat (first|apply zP|apply zQ|apply zR));exact HO369.out⟩,⟨by (with_reducible repeat (first|refine zH ?_ _|refine zI ?_|refine zG ?_ _));exact BK365.out⟩,⟨by repeat (first|(with_reducible first|exact HB.out|apply zA|apply zB|apply zC|refine zF ?_ GE365.out)|exact HB.out)⟩⟩
  case round =>
   clear H';(try clear c1);(try clear p2);(try clear c4);(try clear c5);(try clear hcz7_0);(try clear hcz7_1);(try clear hcz7_2);(try clear hcz7_3);(try clear hcz9_0);(try clear hcz9_1);(try clear hcz9_2);(try clear hcz9_3);(try clear hfz7_0);(try clear hfz7_1);(try clear hfz7_2);(try clear hfz7_3);(try clear hfz9_0);(try clear hfz9_1);(try clear hfz9_2);(try clear hfz9_3);obtain ⟨x1_1,x6_1,x7_1,rfl,rfl,rfl,HA,HK1,HO_5,BK365,HB⟩:=hrel;cases gk with
   | zero=>exact absurd HA.out (by simp [impl_Stop.l0])
   | succ k1 =>
    have H:=HA.out;clear HA;simp only [impl_Stop.l0] at H
    have HC11:=zm H;clear H;go_upto_region 6 with (fail)
    go_cut [22] (fun v22 wc=>∃ (kq : Nat) (x22_10 : Bool),v22 = .bool x22_10∧Aside0 (impl_Stop.j1 kq x1_1 t367 x6_1 x7_1 x22_10 l0_0 l0_1 l0_2 l0_3 = some r)∧Aside0 (kq ≤ k1)∧Aside0 (Kd.R (Kd.int .i64) 3 wc w.heap.size (fun _=>True) v368 t367)∧Aside0 (wc.heap[gb365]? = some (.cells #[(.slice A0_0 l0_0.length c0_0),(.slice A0_1 l0_1.length c0_1),(.slice A0_2 l0_2.length c0_2),(.slice A0_3 l0_3.length c0_3)] 27 (0,0)))∧Aside0 (Below w.heap.size w wc))
    case first =>
     have H:=HC11.out;clear HC11;by_cases c12 : x1_1 = (-1)
     ·rw [if_pos c12] at H;have c12b0 : (x1_1 == (-1)) = true:=beq_iff_eq.mpr c12;have c12b1 : (x1_1 != (-1)) = false:=bne_eq_false_iff_eq.mpr c12;clear c12;(first|rw [c12b0]|(simp only [i64_w,i32_w];rw [c12b0])|skip)
      have H':=zm H;clear H;go_wp2;go_meet
      case rel=>exact ⟨_,(false),(by first|rfl|(simp;done)|(simp [*];done)),H',⟨by have:=HK1.out;first|omega|exact Nat.le_refl _⟩,⟨by (with_reducible repeat (first|apply zP|apply zQ|apply zR));exact HO_5.out⟩,⟨by (with_reducible repeat (first|refine zH ?_ _|refine zI ?_|refine zG ?_ _));exact BK365.out⟩,⟨by repeat (first|(with_reducible first|exact HB.out|apply zA|apply zB|apply zC|refine zF ?_ GE365.out)|exact HB.out)⟩⟩
     ·rw [if_neg c12] at H;have c12b0 : (x1_1 == (-1)) = false:=beq_eq_false_iff_ne.mpr c12;have c12b1 : (x1_1 != (-1)) = true:=bne_iff_ne.mpr c12;(first|rw [c12b0]|(simp only [i64_w,i32_w];rw [c12b0])|skip)
      by_cases c13 : 0 ≤ x1_1
      ·rw [if_pos c13] at H;have c13b0 : decide (0 ≤ x1_1) = true:=decide_eq_true c13;clear c13;by_cases c14 : x1_1 < (t367.length : Int)
       ·rw [if_pos c14] at H;have c14b0 : decide (x1_1 < (t367.length : Int)) = true:=decide_eq_true c14;clear c14;have H':=zm H;clear H;obtain ⟨Ao15,co15,eo15⟩:=zAb HO_5.out;subst eo15
        have p370 : 0 ≤ (x1_1 : Int):=of_decide_eq_true (by first|(with_reducible assumption)|assumption)
        have q370 : x1_1 < (t367.length : Int):=of_decide_eq_true (by first|(with_reducible assumption)|assumption)
        obtain ⟨ad370,e370,hx370_0⟩:=Kd.at_int (zW HO_5.out).2.2 x1_1 p370 q370;cases e370;replace p370:=eq_true p370;replace q370:=eq_true q370;go_wp2;go_meet
        case rel=>exact ⟨_,(decide ((rd t367 x1_1) > 0)),(by first|rfl|(simp;done)|(simp [*];done)),H',⟨by have:=HK1.out;first|omega|exact Nat.le_refl _⟩,⟨by (with_reducible repeat (first|apply zP|apply zQ|apply zR));exact HO_5.out⟩,⟨by (with_reducible repeat (first|refine zH ?_ _|refine zI ?_|refine zG ?_ _));exact BK365.out⟩,⟨by repeat (first|(with_reducible first|exact HB.out|apply zA|apply zB|apply zC|refine zF ?_ GE365.out)|exact HB.out)⟩⟩
       ·rw [if_neg c14] at H;exact absurd H (by simp)
      ·rw [if_neg c13] at H;exact absurd H (by simp)
    case rest =>
     clear HC11;(try clear c1);(try clear p2);(try clear p3);(try clear q3);(try clear hx3);(try clear c4);(try clear c5);(try clear c12);(try clear c12b0);(try clear c12b1);(try clear c13);(try clear c13b0);(try clear c14);(try clear c14b0);(try clear hcz7_0);(try clear hcz7_1);(try clear hcz7_2);(try clear hcz7_3);(try clear hcz9_0);(try clear hcz9_1);(try clear hcz9_2);(try clear hcz9_3);(try clear hfz7_0);(try clear hfz7_1);(try clear hfz7_2);(try clear hfz7_3);(try clear hfz9_0);(try clear hfz9_1);(try clear hfz9_2);(try clear hfz9_3);(try clear hx370_0);(try clear p2);(try clear p370);(try clear q370);obtain ⟨kq,x22_10,rfl,HA,HJ10,HO_5,BK365,HB⟩:=hcut;cases kq with
     | zero=>exact absurd HA.out (by simp [impl_Stop.j1])
     | succ kj10 =>
      have H:=HA.out;clear HA;simp only [impl_Stop.j1] at H
      by_cases c16 : x22_10 = true
      ·subst c16
       have H1 : (if x7_1 > (l0_0.length : Int) then (some (-2)) else (if 0 ≤ x1_1 then (if x1_1 < (l0_1.length : Int) then (if x1_1 < (l0_0.length : Int) then (impl_Stop.l0 kj10 (rd l0_0 x1_1) t367 (wrap64 (x6_1 + (rd l0_1 x1_1))) (wrap64 (x7_1 + 1)) l0_0 l0_1 l0_2 l0_3) else (none)) else (none)) else (none))) = some r:=by rw [if_pos rfl] at H;exact H
       clear H;have H:=H1;clear H1;by_cases c17 : x7_1 > (l0_0.length : Int)
       ·rw [if_pos c17] at H;have c17b0 : decide ((l0_0.length : Int) < x7_1) = true:=decide_eq_true c17;clear c17;obtain rfl:=Option.some.inj H;have hcz18_0 : wc.cell? ⟨gb365,0,none⟩ = some (.slice A0_0 l0_0.length c0_0):=(zD BK365.out 0).trans rfl;have hcz18_1 : wc.cell? ⟨gb365,1,none⟩ = some (.slice A0_1 l0_1.length c0_1):=(zD BK365.out 1).trans rfl;have hcz18_2 : wc.cell? ⟨gb365,2,none⟩ = some (.slice A0_2 l0_2.length c0_2):=(zD BK365.out 2).trans rfl;have hcz18_3 : wc.cell? ⟨gb365,3,none⟩ = some (.slice A0_3 l0_3.length c0_3):=(zD BK365.out 3).trans rfl;have hfz18_0:=zE BK365.out 0;have hfz18_1:=zE BK365.out 1;have hfz18_2:=zE BK365.out 2;have hfz18_3:=zE BK365.out 3;go_wp2;go_ret
        exact ⟨by first|rfl|(simp [errW_none,errW_some] <;> rfl)|(simp [*,errW_none,errW_some] <;> rfl),by repeat (first|(with_reducible first|exact HB.out|apply zA|apply zB|apply zC|refine zF ?_ GE365.out)|exact HB.out)⟩
       ·rw [if_neg c17] at H;have c17b0 : decide ((l0_0.length : Int) < x7_1) = false:=decide_eq_false c17;clear c17;by_cases c19 : 0 ≤ x1_1
        ·rw [if_pos c19] at H;have c19b0 : decide (0 ≤ x1_1) = true:=decide_eq_true c19;clear c19;by_cases c20 : x1_1 < (l0_1.length : Int)
         ·rw [if_pos c20] at H;have c20b0 : decide (x1_1 < (l0_1.length : Int)) = true:=decide_eq_true c20;clear c20;by_cases c21 : x1_1 < (l0_0.length : Int)
          ·rw [if_pos c21] at H;have c21b0 : decide (x1_1 < (l0_0.length : Int)) = true:=decide_eq_true c21;clear c21;have H':=zm H;clear H;have hcz22_0 : wc.cell? ⟨gb365,0,none⟩ = some (.slice A0_0 l0_0.length c0_0):=(zD BK365.out 0).trans rfl;have hcz22_1 : wc.cell? ⟨gb365,1,none⟩ = some (.slice A0_1 l0_1.length c0_1):=(zD BK365.out 1).trans rfl;have hcz22_2 : wc.cell? ⟨gb365,2,none⟩ = some (.slice A0_2 l0_2.length c0_2):=(zD BK365.out 2).trans rfl;have hcz22_3 : wc.cell? ⟨gb365,3,none⟩ = some (.slice A0_3 l0_3.length c0_3):=(zD BK365.out 3).trans rfl;have hfz22_0:=zE BK365.out 0;have hfz22_1:=zE BK365.out 1;have hfz22_2:=zE BK365.out 2;have hfz22_3:=zE BK365.out 3;have p371 : 0 ≤ (x1_1 : Int):=of_decide_eq_true (by first|(with_reducible assumption)|assumption)
           have q371 : x1_1 < (l0_1.length : Int):=of_decide_eq_true (by first|(with_reducible assumption)|assumption)
           obtain ⟨ad371,e371,hx371_0⟩:=Kd.at_int HR0_1.out x1_1 p371 q371;cases e371;replace hx371_0:=(HB.out.cell (World.block_lt_of_cell? w _ hx371_0)).trans hx371_0;replace p371:=eq_true p371;replace q371:=eq_true q371;have p372 : 0 ≤ (x1_1 : Int):=of_decide_eq_true (by first|(with_reducible assumption)|assumption)
           have q372 : x1_1 < (l0_0.length : Int):=of_decide_eq_true (by first|(with_reducible assumption)|assumption)
           obtain ⟨ad372,e372,hx372_0⟩:=Kd.at_int HR0_0.out x1_1 p372 q372;cases e372;replace hx372_0:=(HB.out.cell (World.block_lt_of_cell? w _ hx372_0)).trans hx372_0;replace p372:=eq_true p372;replace q372:=eq_true q372;go_wp2;go_roundg kj10
           case measure=>have:=HK1.out;have:=HJ10.out;omega
           case rel=>exact ⟨(rd l0_0 x1_1),(wrap64 (x6_1 + (rd l0_1 x1_1))),(wrap64 (x7_1 + 1)),(by first|rfl|(simp;done)|(simp [*];done)),(by first|rfl|(simp;done)|(simp [*];done)),(by first|rfl|(simp;done)|(simp [*];done)),H',⟨by have:=HK1.out;have:=HJ10.out;omega⟩,⟨by (with_reducible repeat (first|apply zP|apply zQ|apply zR));exact HO_5.out⟩,⟨by (with_reducible repeat (first|refine zH ?_ _|refine zI ?_|refine zG ?_ _));exact BK365.out⟩,⟨by repeat (first|(with_reducible first|exact HB.out|apply zA|apply zB|apply zC|refine zF ?_ GE365.out)|exact HB.out)⟩⟩
          ·rw [if_neg c21] at H;exact absurd H (by simp)
         ·rw [if_neg c20] at H;exact absurd H (by simp)
        ·rw [if_neg c19] at H;exact absurd H (by simp)
      ·replace c16:=Bool.eq_false_iff.mpr c16;subst c16
       have H1 : (some x6_1) = some r:=by rw [if_neg (show ¬ (false = true) by decide)] at H;exact H
       clear H;have H:=H1;clear H1;obtain rfl:=Option.some.inj H;go_wp2;go_ret
       exact ⟨by first|rfl|(simp [errW_none,errW_some] <;> rfl)|(simp [*,errW_none,errW_some] <;> rfl),by repeat (first|(with_reducible first|exact HB.out|apply zA|apply zB|apply zC|refine zF ?_ GE365.out)|exact HB.out)⟩
 ·replace c4:=Bool.eq_false_iff.mpr c4;subst c4
  have H1 : (some (-1)) = some r:=by rw [if_neg (show ¬ (false = true) by decide)] at H;exact H
  clear H;have H:=H1;clear H1;obtain rfl:=Option.some.inj H;go_enter Try.func40,Try.ntmps40
  go_wp2_with (first|((with_reducible refine zM (N:=2) rfl ?_);refine zN ?hg (N:=2) ?hd (cs:=#[.slice A0_0 l0_0.length c0_0,.slice A0_1 l0_1.length c0_1,.slice A0_2 l0_2.length c0_2,.slice A0_3 l0_3.length c0_3]) (t:=27) ?hr ?_;(case hd=>rfl);(case hg=>rfl);(case hr=>first|(go_simp;done)|(go_simp;rfl));intro gb365 hg w23 hbox hb;have n0_:=zm (zK (by repeat (first|(with_reducible first|exact HB.out|apply zA|apply zB|apply zC)|exact HB.out)) hb);have n1_:=zm (hbox);have n2_:=zm ((by rw [hg];exact (zJ (by repeat (first|(with_reducible first|exact HB.out|apply zA|apply zB|apply zC)|exact HB.out))) : w.heap.size ≤ gb365));have n3_:=zm ((by rw [hg];exact (zJ (by repeat (first|(with_reducible first|exact HB.out|apply zA|apply zB|apply zC)|exact HB.out))) : w.heap.size ≤ gb365));clear HB;have HB:=n0_;have BK365:=n1_;have GW365:=n2_;have GE365:=n3_;clear n0_ n1_ n2_ n3_;clear hb hbox hg;have hcz24_0 : w23.cell? ⟨gb365,0,none⟩ = some (.slice A0_0 l0_0.length c0_0):=(zD BK365.out 0).trans rfl;have hcz24_1 : w23.cell? ⟨gb365,1,none⟩ = some (.slice A0_1 l0_1.length c0_1):=(zD BK365.out 1).trans rfl;have hcz24_2 : w23.cell? ⟨gb365,2,none⟩ = some (.slice A0_2 l0_2.length c0_2):=(zD BK365.out 2).trans rfl;have hcz24_3 : w23.cell? ⟨gb365,3,none⟩ = some (.slice A0_3 l0_3.length c0_3):=(zD BK365.out 3).trans rfl;have hfz24_0:=zE BK365.out 0;have hfz24_1:=zE BK365.out 1;have hfz24_2:=zE BK365.out 2;have hfz24_3:=zE BK365.out 3)|((with_reducible refine gate_callee (f:=58) rfl ?_);refine goesL_ (some 10) rfl rfl Try.func58 (by kernel_rfl) rfl #[.agg #[.slice A0_0 l0_0.length c0_0,.slice A0_1 l0_1.length c0_1,.slice A0_2 l0_2.length c0_2,.slice A0_3 l0_3.length c0_3],.int .i64 a1] rfl (by (try simp only [List.map_toArray,List.map_cons,List.map_nil]);first|done|rfl|(simp only [List.length_drop,List.length_take];rfl)) ?_;(with_reducible refine (impl_there.calls k _ _ l0_0 _ _ l0_1 _ _ l0_2 _ _ l0_3 a1 false _ ?side1 ?side2 ?side3 ?side4 ?side5 ?side6 ?side7 ?side8 A3.out).mono ?_);(case side1=>repeat (first|exact (zY HR0_0.out HB.out)|(with_reducible refine zT ?_ _)|(with_reducible refine zU ?_ _)|(with_reducible refine zV ?_)));(case side2=>exact HC0_0.out);(case side3=>repeat (first|exact (zY HR0_1.out HB.out)|(with_reducible refine zT ?_ _)|(with_reducible refine zU ?_ _)|(with_reducible refine zV ?_)));(case side4=>exact HC0_1.out);(case side5=>repeat (first|exact (zY HR0_2.out HB.out)|(with_reducible refine zT ?_ _)|(with_reducible refine zU ?_ _)|(with_reducible refine zV ?_)));(case side6=>exact HC0_2.out);(case side7=>repeat (first|exact (zY HR0_3.out HB.out)|(with_reducible refine zT ?_ _)|(with_reducible refine zU ?_ _)|(with_reducible refine zV ?_)));(case side8=>exact HC0_3.out);rintro e w25 ⟨rfl,hb⟩;refine ⟨_,rfl,?_⟩;have n0_:=zm (zL (g:=gb365) (o:=.cells #[.slice A0_0 l0_0.length c0_0,.slice A0_1 l0_1.length c0_1,.slice A0_2 l0_2.length c0_2,.slice A0_3 l0_3.length c0_3] 27 (0,0)) (by (with_reducible repeat (first|refine zH ?_ _|refine zI ?_|refine zG ?_ _));exact BK365.out) hb);have n1_:=zm (zK (by repeat (first|(with_reducible first|exact HB.out|apply zA|apply zB|apply zC|refine zF ?_ GE365.out)|exact HB.out)) hb);clear BK365;clear HB;have BK365:=n0_;have HB:=n1_;clear n0_ n1_;(try clear hb);(try clear hb2);(try clear hk);(try clear hi)))
  go_ret
  exact ⟨by first|rfl|(simp [errW_none,errW_some] <;> rfl)|(simp [*,errW_none,errW_some] <;> rfl),by repeat (first|(with_reducible first|exact HB.out|apply zA|apply zB|apply zC|refine zF ?_ GE365.out)|exact HB.out)⟩

end Go.Proofs.Ytpdcghclcgbcfaa.P
