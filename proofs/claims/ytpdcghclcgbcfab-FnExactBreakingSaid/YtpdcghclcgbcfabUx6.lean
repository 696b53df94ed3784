-- written by a program of this session (after the kit's print), not trusted: Lean checks it
import Derived.Test.YtpdcghclcgbcfabUx0
import Derived.Test.YtpdcghclcgbcfabUx5
namespace Go.Proofs.Ytpdcghclcgbcfab.U
open Go.RowKit Go.Proofs.YtpdcghclcgbcfabW.PrintWords Go.Proofs.YtpdcghclcgbcfabW.PrintLast Go.Proofs.YtpdcghclcgbcfabW.PrintMore
open Go.Proofs.YtpdcghclcgbcfabW.PrintWords renaming below_alloc → zA, below_drew1 → zC, below_set → zF, below_size → zJ, below_step → zK, blk_alloc → zG, blk_below → zL, blk_cell → zD, blk_drew → zI, blk_drewN → zH, blk_frozen → zE, box_event → zN, gate_dst → zM, pw_below_drewN → zB
open Go.Proofs.YtpdcghclcgbcfabW.PrintWords.Kd renaming C_alloc → zT, C_below → zY, C_drew → zV, C_drewN → zU, R_alloc → zP, R_base → zCb, R_drew → zR, R_drewN → zQ, R_lower → zZ, R_mono → zS, R_reads' → zW, R_slice → zAb
open Go.Proofs.YtpdcghclcgbcfabW.PrintWords.Aside0 renaming mk → zm
open Bool renaming true → y', false → n'
attribute [local go_sem] max2_int min2_int max_two min_two max_three min_three max_four min_four   -- for this text's walks alone
set_option linter.unusedVariables false
set_option linter.unusedSimpArgs false

/-! ### spec_l2changes: function 28 -/
def spec_l2changes.l0 : Nat→List Int→List Int→List (S58)→Int→Int→Option ((List (S58)))
 | 0,_,_,_,_,_=>none
 | k + 1,x6,x8,x9,x22,x23=>if x23 < x22 then (if 0 ≤ x23 then (if x23 < (x6.length : Int) then (if x23 < (x8.length : Int) then (if (rd x6 x23) = (rd x8 x23) then (spec_l2changes.l0 k x6 x8 x9 x22 (wrap64 (x23 + 1))) else (if x9.length < 5864062014805 then (spec_l2changes.l0 k x6 x8 (x9 ++ [(⟨x23,rd x6 x23,rd x8 x23⟩ : S58)]) x22 (wrap64 (x23 + 1))) else (none))) else (none)) else (none)) else (none)) else (some x9)
def spec_l2changes.f (k : Nat) (l0_0 : List Int) (l0_1 : List Int) (l0_2 : List Bool) (l0_3 : List (List Bool)) (l1_0 : List Int) (l1_1 : List Int) (l1_2 : List Bool) (l1_3 : List (List Bool)) : Option ((List (S58))):=(spec_l2both.f k l0_0 l0_1 l0_2 l0_3).bind fun bt177=>((spec_l2both.f k l1_0 l1_1 l1_2 l1_3).bind fun bt183=>(spec_l2changes.l0 k bt177.2 bt183.2 ([] : List (S58)) (bt177.2.length : Int) 0))
theorem spec_l2changes.mono_l : ∀ k,(∀ y0 y1 y2 y3 y4,LeO (spec_l2changes.l0 k y0 y1 y2 y3 y4) (spec_l2changes.l0 (k + 1) y0 y1 y2 y3 y4))
 | 0=>fun _ _ _ _ _ r h=>by simp [spec_l2changes.l0] at h
 | k + 1=>by
  have ih0:=spec_l2changes.mono_l k
  ·intro y0 y1 y2 y3 y4
   unfold spec_l2changes.l0
   repeat' first
   | (with_reducible exact ih0 _ _ _ _ _)
   | (with_reducible exact spec_l2both.mono _ _ _ _ _)
   | (with_reducible exact LeO.refl _)
   | (with_reducible exact LeO.none _)
   | (with_reducible refine LeO.ite ?_ ?_)
   | (with_reducible refine LeO.bind ?_ (fun _=>?_))
   | exact ih0 _ _ _ _ _
   | exact spec_l2both.mono _ _ _ _ _
   | exact LeO.none _
   | refine LeO.ite ?_ ?_
   | refine LeO.bind ?_ (fun _=>?_)
theorem spec_l2changes.mono : ∀ a0 a1 a2 a3 a4 a5 a6 a7 k,LeO (spec_l2changes.f k a0 a1 a2 a3 a4 a5 a6 a7) (spec_l2changes.f (k + 1) a0 a1 a2 a3 a4 a5 a6 a7):=by
 intro a0 a1 a2 a3 a4 a5 a6 a7 k
 have ih0:=spec_l2changes.mono_l k;unfold spec_l2changes.f
 repeat' first
   | (with_reducible exact ih0 _ _ _ _ _)
   | (with_reducible exact spec_l2both.mono _ _ _ _ _)
   | (with_reducible exact LeO.refl _)
   | (with_reducible exact LeO.none _)
   | (with_reducible refine LeO.ite ?_ ?_)
   | (with_reducible refine LeO.bind ?_ (fun _=>?_))
   | exact ih0 _ _ _ _ _
   | exact spec_l2both.mono _ _ _ _ _
   | exact LeO.none _
   | refine LeO.ite ?_ ?_
   | refine LeO.bind ?_ (fun _=>?_)
def spec_l2changes.T7 : Bool × List (List Nat × List Nat):=(true,[([],[]),([],[]),([0,1],[0,1]),([2],[2]),([],[]),([],[]),([4,5],[4,5]),([6],[6]),([3,7],[3,7])])
def spec_l2changes.B7 : List Nat:=[0,0,3,7,0,0,48,112,255]
theorem spec_l2changes.tab7 : rtab .any (opsOf Try.f28 7) = spec_l2changes.T7:=by kernel_rfl
theorem spec_l2changes.bits7 : waitsOk spec_l2changes.T7.2 spec_l2changes.B7 = true:=by kernel_rfl
def spec_l2changes.T8 : Bool × List (List Nat × List Nat):=(true,[([],[]),([],[]),([],[]),([],[]),([2,3],[2,3]),([4],[4]),([],[]),([],[]),([6,7],[6,7]),([8],[8]),([1,5,9],[1,5,9]),([10],[10]),([0,11],[0,11]),([12,12,0,1,2,3,4,5,6,7,8,9,10,11,12],[0,12])])
def spec_l2changes.B8 : List Nat:=[0,0,0,0,12,28,0,0,192,448,1022,2046,4095,8191]
theorem spec_l2changes.tab8 : rtab .any (opsOf Try.f28 8) = spec_l2changes.T8:=by kernel_rfl
theorem spec_l2changes.bits8 : waitsOk spec_l2changes.T8.2 spec_l2changes.B8 = true:=by kernel_rfl
set_option maxHeartbeats 8000000 in
set_option maxRecDepth 100000 in
theorem spec_l2changes.calls (k : Nat) (A0_0 : Option Addr) (c0_0 : Nat) (l0_0 : List Int) (A0_1 : Option Addr) (c0_1 : Nat) (l0_1 : List Int) (A0_2 : Option Addr) (c0_2 : Nat) (l0_2 : List Bool) (A0_3 : Option Addr) (c0_3 : Nat) (l0_3 : List (List Bool)) (A1_0 : Option Addr) (c1_0 : Nat) (l1_0 : List Int) (A1_1 : Option Addr) (c1_1 : Nat) (l1_1 : List Int) (A1_2 : Option Addr) (c1_2 : Nat) (l1_2 : List Bool) (A1_3 : Option Addr) (c1_3 : Nat) (l1_3 : List (List Bool)) (r : List (S58)) (w : World) (hr0_0 : Kd.C (Kd.int .i64) w A0_0 l0_0.length l0_0) (hc0_0 : l0_0.length ≤ c0_0) (hr0_1 : Kd.C (Kd.int .i64) w A0_1 l0_1.length l0_1) (hc0_1 : l0_1.length ≤ c0_1) (hr0_2 : Kd.C Kd.bool w A0_2 l0_2.length l0_2) (hc0_2 : l0_2.length ≤ c0_2) (hr0_3 : Kd.C (Kd.slice 4 Kd.bool) w A0_3 l0_3.length l0_3) (hc0_3 : l0_3.length ≤ c0_3) (hr1_0 : Kd.C (Kd.int .i64) w A1_0 l1_0.length l1_0) (hc1_0 : l1_0.length ≤ c1_0) (hr1_1 : Kd.C (Kd.int .i64) w A1_1 l1_1.length l1_1) (hc1_1 : l1_1.length ≤ c1_1) (hr1_2 : Kd.C Kd.bool w A1_2 l1_2.length l1_2) (hc1_2 : l1_2.length ≤ c1_2) (hr1_3 : Kd.C (Kd.slice 4 Kd.bool) w A1_3 l1_3.length l1_3) (hc1_3 : l1_3.length ≤ c1_3) (h : spec_l2changes.f k l0_0 l0_1 l0_2 l0_3 l1_0 l1_1 l1_2 l1_3 = some r) :
  Calls Try.prog 28 #[.agg #[.slice A0_0 l0_0.length c0_0,.slice A0_1 l0_1.length c0_1,.slice A0_2 l0_2.length c0_2,.slice A0_3 l0_3.length c0_3],.agg #[.slice A1_0 l1_0.length c1_0,.slice A1_1 l1_1.length c1_1,.slice A1_2 l1_2.length c1_2,.slice A1_3 l1_3.length c1_3]] w fun e w'=>∃ v0_ : Value,e = .returned (v0_)∧Kd.R k58 58 w' w.heap.size (fun _=>True) v0_ r∧Below w.heap.size w w':=by
 have hu30:=Try.underlying30;have hu58:=Try.underlying58;have HR0_0:=zm hr0_0;have HC0_0:=zm hc0_0;clear hr0_0 hc0_0;have HR0_1:=zm hr0_1;have HC0_1:=zm hc0_1;clear hr0_1 hc0_1;have HR0_2:=zm hr0_2;have HC0_2:=zm hc0_2;clear hr0_2 hc0_2;have HR0_3:=zm hr0_3;have HC0_3:=zm hc0_3;clear hr0_3 hc0_3;have HR1_0:=zm hr1_0;have HC1_0:=zm hc1_0;clear hr1_0 hc1_0;have HR1_1:=zm hr1_1;have HC1_1:=zm hc1_1;clear hr1_1 hc1_1;have HR1_2:=zm hr1_2;have HC1_2:=zm hc1_2;clear hr1_2 hc1_2;have HR1_3:=zm hr1_3;have HC1_3:=zm hc1_3;clear hr1_3 hc1_3;have HB:=zm (Below.refl w.heap.size w);have H : ((spec_l2both.f k l0_0 l0_1 l0_2 l0_3).bind fun bt177=>((spec_l2both.f k l1_0 l1_1 l1_2 l1_3).bind fun bt183=>(spec_l2changes.l0 k bt177.2 bt183.2 ([] : List (S58)) (bt177.2.length : Int) 0))) = some r:=h
 clear h;replace H:=Option.bind_eq_some_iff.mp H;obtain ⟨⟨t177,t180⟩,A30,H⟩:=H;replace H : ((spec_l2both.f k l1_0 l1_1 l1_2 l1_3).bind fun bt183=>(spec_l2changes.l0 k t180 bt183.2 ([] : List (S58)) (t180.length : Int) 0)) = some r:=H
 have A3:=zm A30;clear A30;replace H:=Option.bind_eq_some_iff.mp H;obtain ⟨⟨t183,t186⟩,A40,H⟩:=H;replace H : (spec_l2changes.l0 k t180 t186 ([] : List (S58)) (t180.length : Int) 0) = some r:=H;have A4:=zm A40;clear A40;have H':=zm H;clear H;go_enter Try.func28,Try.ntmps28
 go_wp2_with (first|((with_reducible refine zM (N:=2) rfl ?_);refine zN ?hg (N:=2) ?hd (cs:=#[.slice A0_0 l0_0.length c0_0,.slice A0_1 l0_1.length c0_1,.slice A0_2 l0_2.length c0_2,.slice A0_3 l0_3.length c0_3]) (t:=30) ?hr ?_;(case hd=>rfl);(case hg=>rfl);(case hr=>first|(go_simp;done)|(go_simp;rfl));intro gb175 hg w5 hbox hb;have n0_:=zm (zK (by repeat (first|(with_reducible first|exact HB.out|apply zA|apply zB|apply zC)|exact HB.out)) hb);have n1_:=zm (hbox);have n2_:=zm ((by rw [hg];exact (zJ (by repeat (first|(with_reducible first|exact HB.out|apply zA|apply zB|apply zC)|exact HB.out))) : w.heap.size ≤ gb175));have n3_:=zm ((by rw [hg];exact (zJ (by repeat (first|(with_reducible first|exact HB.out|apply zA|apply zB|apply zC)|exact HB.out))) : w.heap.size ≤ gb175));clear HB;have HB:=n0_;have BK175:=n1_;have GW175:=n2_;have GE175:=n3_;clear n0_ n1_ n2_ n3_;clear hb hbox hg)|((with_reducible refine zM (N:=3) rfl ?_);refine zN ?hg (N:=3) ?hd (cs:=#[.slice A1_0 l1_0.length c1_0,.slice A1_1 l1_1.length c1_1,.slice A1_2 l1_2.length c1_2,.slice A1_3 l1_3.length c1_3]) (t:=30) ?hr ?_;(case hd=>rfl);(case hg=>rfl);(case hr=>first|(go_simp;done)|(go_simp;rfl));intro gb176 hg w6 hbox hb;have n0_:=zm (zL (g:=gb175) (o:=.cells #[.slice A0_0 l0_0.length c0_0,.slice A0_1 l0_1.length c0_1,.slice A0_2 l0_2.length c0_2,.slice A0_3 l0_3.length c0_3] 30 (0,0)) (by (with_reducible repeat (first|refine zH ?_ _|refine zI ?_|refine zG ?_ _));exact BK175.out) hb);have n1_:=zm (zK (by repeat (first|(with_reducible first|exact HB.out|apply zA|apply zB|apply zC|refine zF ?_ GE175.out)|exact HB.out)) hb);have n2_:=zm (hbox);have n3_:=zm ((by rw [hg];exact (zJ (by repeat (first|(with_reducible first|exact HB.out|apply zA|apply zB|apply zC|refine zF ?_ GE175.out)|exact HB.out))) : w.heap.size ≤ gb176));have n4_:=zm ((by rw [hg];exact (zJ (by repeat (first|(with_reducible first|exact HB.out|apply zA|apply zB|apply zC|refine zF ?_ GE175.out)|exact HB.out))) : w.heap.size ≤ gb176));have n5_:=zm ((by rw [hg];exact Nat.ne_of_lt (blk_lt (g:=gb175) (o:=.cells #[.slice A0_0 l0_0.length c0_0,.slice A0_1 l0_1.length c0_1,.slice A0_2 l0_2.length c0_2,.slice A0_3 l0_3.length c0_3] 30 (0,0)) (by (with_reducible repeat (first|refine zH ?_ _|refine zI ?_|refine zG ?_ _));exact BK175.out)) : gb175 ≠ gb176));have n6_:=zm ((by rw [hg];exact Nat.ne_of_gt (blk_lt (g:=gb175) (o:=.cells #[.slice A0_0 l0_0.length c0_0,.slice A0_1 l0_1.length c0_1,.slice A0_2 l0_2.length c0_2,.slice A0_3 l0_3.length c0_3] 30 (0,0)) (by (with_reducible repeat (first|refine zH ?_ _|refine zI ?_|refine zG ?_ _));exact BK175.out)) : gb176 ≠ gb175));clear BK175;clear HB;have BK175:=n0_;have HB:=n1_;have BK176:=n2_;have GW176:=n3_;have GE176:=n4_;have NB175_176:=n5_;have NB176_175:=n6_;clear n0_ n1_ n2_ n3_ n4_ n5_ n6_;clear hb hbox hg;have hnb7:=NB175_176.out;have hnc7:=NB176_175.out;have hcz8_0 : w6.cell? ⟨gb175,0,none⟩ = some (.slice A0_0 l0_0.length c0_0):=(zD BK175.out 0).trans rfl;have hcz8_1 : w6.cell? ⟨gb175,1,none⟩ = some (.slice A0_1 l0_1.length c0_1):=(zD BK175.out 1).trans rfl;have hcz8_2 : w6.cell? ⟨gb175,2,none⟩ = some (.slice A0_2 l0_2.length c0_2):=(zD BK175.out 2).trans rfl;have hcz8_3 : w6.cell? ⟨gb175,3,none⟩ = some (.slice A0_3 l0_3.length c0_3):=(zD BK175.out 3).trans rfl;have hfz8_0:=zE BK175.out 0;have hfz8_1:=zE BK175.out 1;have hfz8_2:=zE BK175.out 2;have hfz8_3:=zE BK175.out 3)|((with_reducible refine gate_callee (f:=47) rfl ?_);refine goesL_ (some 13) rfl rfl Try.func47 (by kernel_rfl) rfl #[.agg #[.slice A0_0 l0_0.length c0_0,.slice A0_1 l0_1.length c0_1,.slice A0_2 l0_2.length c0_2,.slice A0_3 l0_3.length c0_3]] rfl (by (try simp only [List.map_toArray,List.map_cons,List.map_nil]);first|done|rfl|(simp only [List.length_drop,List.length_take];rfl)) ?_;(with_reducible refine (spec_l2both.calls k _ _ l0_0 _ _ l0_1 _ _ l0_2 _ _ l0_3 t177 t180 _ ?side1 ?side2 ?side3 ?side4 ?side5 ?side6 ?side7 ?side8 A3.out).mono ?_);(case side1=>repeat (first|exact (zY HR0_0.out HB.out)|(with_reducible refine zT ?_ _)|(with_reducible refine zU ?_ _)|(with_reducible refine zV ?_)));(case side2=>exact HC0_0.out);(case side3=>repeat (first|exact (zY HR0_1.out HB.out)|(with_reducible refine zT ?_ _)|(with_reducible refine zU ?_ _)|(with_reducible refine zV ?_)));(case side4=>exact HC0_1.out);(case side5=>repeat (first|exact (zY HR0_2.out HB.out)|(with_reducible refine zT ?_ _)|(with_reducible refine zU ?_ _)|(with_reducible refine zV ?_)));(case side6=>exact HC0_2.out);(case side7=>repeat (first|exact (zY HR0_3.out HB.out)|(with_reducible refine zT ?_ _)|(with_reducible refine zU ?_ _)|(with_reducible refine zV ?_)));(case side8=>exact HC0_3.out);rintro e w9 ⟨v178,v181,rfl,ho0,ho1,hb⟩;refine ⟨_,rfl,?_⟩;have n0_:=zm (zZ ho0 (zJ (by repeat (first|(with_reducible first|exact HB.out|apply zA|apply zB|apply zC|refine zF ?_ GE175.out|refine zF ?_ GE176.out)|exact HB.out))));have n1_:=zm (zZ ho1 (zJ (by repeat (first|(with_reducible first|exact HB.out|apply zA|apply zB|apply zC|refine zF ?_ GE175.out|refine zF ?_ GE176.out)|exact HB.out))));have n2_:=zm (zL (g:=gb175) (o:=.cells #[.slice A0_0 l0_0.length c0_0,.slice A0_1 l0_1.length c0_1,.slice A0_2 l0_2.length c0_2,.slice A0_3 l0_3.length c0_3] 30 (0,0)) (by (with_reducible repeat (first|refine zH ?_ _|refine zI ?_|refine zG ?_ _));exact BK175.out) hb);have n3_:=zm (zL (g:=gb176) (o:=.cells #[.slice A1_0 l1_0.length c1_0,.slice A1_1 l1_1.length c1_1,.slice A1_2 l1_2.length c1_2,.slice A1_3 l1_3.length c1_3] 30 (0,0)) (by (with_reducible repeat (first|refine zH ?_ _|refine zI ?_|refine zG ?_ _));exact BK176.out) hb);have n4_:=zm (zK (by repeat (first|(with_reducible first|exact HB.out|apply zA|apply zB|apply zC|refine zF ?_ GE175.out|refine zF ?_ GE176.out)|exact HB.out)) hb);clear BK175;clear BK176;clear HB;have HO179:=n0_;have HO182:=n1_;have BK175:=n2_;have BK176:=n3_;have HB:=n4_;clear n0_ n1_ n2_ n3_ n4_;(try clear hb);(try clear hb2);(try clear hk);(try clear hi);(try clear ho0);(try clear ho1);have hcz10_0 : w9.cell? ⟨gb176,0,none⟩ = some (.slice A1_0 l1_0.length c1_0):=(zD BK176.out 0).trans rfl;have hcz10_1 : w9.cell? ⟨gb176,1,none⟩ = some (.slice A1_1 l1_1.length c1_1):=(zD BK176.out 1).trans rfl;have hcz10_2 : w9.cell? ⟨gb176,2,none⟩ = some (.slice A1_2 l1_2.length c1_2):=(zD BK176.out 2).trans rfl;have hcz10_3 : w9.cell? ⟨gb176,3,none⟩ = some (.slice A1_3 l1_3.length c1_3):=(zD BK176.out 3).trans rfl;have hfz10_0:=zE BK176.out 0;have hfz10_1:=zE BK176.out 1;have hfz10_2:=zE BK176.out 2;have hfz10_3:=zE BK176.out 3)|((with_reducible refine gate_callee (f:=47) rfl ?_);refine goesL_ (some 18) rfl rfl Try.func47 (by kernel_rfl) rfl #[.agg #[.slice A1_0 l1_0.length c1_0,.slice A1_1 l1_1.length c1_1,.slice A1_2 l1_2.length c1_2,.slice A1_3 l1_3.length c1_3]] rfl (by (try simp only [List.map_toArray,List.map_cons,List.map_nil]);first|done|rfl|(simp only [List.length_drop,List.length_take];rfl)) ?_;(with_reducible refine (spec_l2both.calls k _ _ l1_0 _ _ l1_1 _ _ l1_2 _ _ l1_3 t183 t186 _ ?side1 ?side2 ?side3 ?side4 ?side5 ?side6 ?side7 ?side8 A4.out).mono ?_);(case side1=>repeat (first|exact (zY HR1_0.out HB.out)|(with_reducible refine zT ?_ _)|(with_reducible refine zU ?_ _)|(with_reducible refine zV ?_)));(case side2=>exact HC1_0.out);(case side3=>repeat (first|exact (zY HR1_1.out HB.out)|(with_reducible refine zT ?_ _)|(with_reducible refine zU ?_ _)|(with_reducible refine zV ?_)));(case side4=>exact HC1_1.out);(case side5=>repeat (first|exact (zY HR1_2.out HB.out)|(with_reducible refine zT ?_ _)|(with_reducible refine zU ?_ _)|(with_reducible refine zV ?_)));(case side6=>exact HC1_2.out);(case side7=>repeat (first|exact (zY HR1_3.out HB.out)|(with_reducible refine zT ?_ _)|(with_reducible refine zU ?_ _)|(with_reducible refine zV ?_)));(case side8=>exact HC1_3.out);rintro e w11 ⟨v184,v187,rfl,ho0,ho1,hb⟩;refine ⟨_,rfl,?_⟩;have n0_:=zm (zS (Kd.R_told (Kd.R_told (Kd.R_old (by (with_reducible repeat (first|apply zP|apply zQ|apply zR));exact HO179.out) hb) (zCb ho0)) (zCb ho1)) (fun _ h_=>h_.1));have n1_:=zm (zS (Kd.R_told (Kd.R_told (Kd.R_old (by (with_reducible repeat (first|apply zP|apply zQ|apply zR));exact HO182.out) hb) (zCb ho0)) (zCb ho1)) (fun _ h_=>h_.1));have n2_:=zm (zZ (Kd.R_new' (Kd.R_new' ho0 (Kd.R_lt (by (with_reducible repeat (first|apply zP|apply zQ|apply zR));exact HO179.out))) (Kd.R_lt (by (with_reducible repeat (first|apply zP|apply zQ|apply zR));exact HO182.out))) (zJ (by repeat (first|(with_reducible first|exact HB.out|apply zA|apply zB|apply zC|refine zF ?_ GE175.out|refine zF ?_ GE176.out)|exact HB.out))));have n3_:=zm (zZ (Kd.R_new' (Kd.R_new' ho1 (Kd.R_lt (by (with_reducible repeat (first|apply zP|apply zQ|apply zR));exact HO179.out))) (Kd.R_lt (by (with_reducible repeat (first|apply zP|apply zQ|apply zR));exact HO182.out))) (zJ (by repeat (first|(with_reducible first|exact HB.out|apply zA|apply zB|apply zC|refine zF ?_ GE175.out|refine zF ?_ GE176.out)|exact HB.out))));have n4_:=zm (zL (g:=gb175) (o:=.cells #[.slice A0_0 l0_0.length c0_0,.slice A0_1 l0_1.length c0_1,.slice A0_2 l0_2.length c0_2,.slice A0_3 l0_3.length c0_3] 30 (0,0)) (by (with_reducible repeat (first|refine zH ?_ _|refine zI ?_|refine zG ?_ _));exact BK175.out) hb);have n5_:=zm (zL (g:=gb176) (o:=.cells #[.slice A1_0 l1_0.length c1_0,.slice A1_1 l1_1.length c1_1,.slice A1_2 l1_2.length c1_2,.slice A1_3 l1_3.length c1_3] 30 (0,0)) (by (with_reducible repeat (first|refine zH ?_ _|refine zI ?_|refine zG ?_ _));exact BK176.out) hb);have n6_:=zm (zK (by repeat (first|(with_reducible first|exact HB.out|apply zA|apply zB|apply zC|refine zF ?_ GE175.out|refine zF ?_ GE176.out)|exact HB.out)) hb);clear HO179;clear HO182;clear BK175;clear BK176;clear HB;have HO179:=n0_;have HO182:=n1_;have HO185:=n2_;have HO188:=n3_;have BK175:=n4_;have BK176:=n5_;have HB:=n6_;clear n0_ n1_ n2_ n3_ n4_ n5_ n6_;(try clear hb);(try clear hb2);(try clear hk);(try clear hi);(try clear ho0);(try clear ho1);obtain ⟨Ao12,co12,eo12⟩:=zAb HO182.out;subst eo12))
 go_loopg [9,23] k (fun kq v9 v23 w'=>∃ (x9_1 : List (S58)) (x23_1 : Int),v23 = .int .i64 x23_1∧Aside0 (spec_l2changes.l0 kq t180 t186 x9_1 (t180.length : Int) x23_1 = some r)∧Aside0 (kq ≤ k)∧Aside0 (Kd.R (Kd.int .i64) 3 w' w.heap.size (fun k_=>some k_ ≠ (v187 : Value).ownBlock) (.slice Ao12 t180.length co12) t180)∧Aside0 (Kd.R (Kd.int .i64) 3 w' w.heap.size (fun k_=>some k_ ≠ ((.slice Ao12 t180.length co12) : Value).ownBlock) v187 t186)∧Aside0 (Kd.R k58 58 w' w.heap.size (fun _=>True) v9 x9_1)∧Aside0 (w'.heap[gb175]? = some (.cells #[(.slice A0_0 l0_0.length c0_0),(.slice A0_1 l0_1.length c0_1),(.slice A0_2 l0_2.length c0_2),(.slice A0_3 l0_3.length c0_3)] 30 (0,0)))∧Aside0 (w'.heap[gb176]? = some (.cells #[(.slice A1_0 l1_0.length c1_0),(.slice A1_1 l1_1.length c1_1),(.slice A1_2 l1_2.length c1_2),(.slice A1_3 l1_3.length c1_3)] 30 (0,0)))∧Aside0 (Below w.heap.size w w'))
 case atStart=>exact ⟨(([] : List (S58))),(0),(by first|rfl|(simp;done)|(simp [*];done)),H',⟨Nat.le_refl _⟩,⟨by (with_reducible repeat (first|apply zP|apply zQ|apply zR));exact zS HO182.out (fun _ hk=>hk.2)⟩,⟨by (with_reducible repeat (first|apply zP|apply zQ|apply zR));exact zS HO188.out (fun _ hk=>hk.2)⟩,⟨by first|exact Kd.R_nil _ _ _ _ _|exact Kd.N_nil _ _ _ _ _|exact Kd.V_nil _ _ _ _ _|exact Kd.Q_nil _ _ _ _ _|exact Kd.S_nil _ _ _ _ _⟩,⟨by (with_reducible repeat (first|refine zH ?_ _|refine zI ?_|refine zG ?_ _));exact BK175.out⟩,⟨by (with_reducible repeat (first|refine zH ?_ _|refine zI ?_|refine zG ?_ _));exact BK176.out⟩,⟨by repeat (first|(with_reducible first|exact HB.out|apply zA|apply zB|apply zC|refine zF ?_ GE175.out|refine zF ?_ GE176.out)|exact HB.out)⟩⟩
 case round =>
  clear H';(try clear c1);(try clear c2);(try clear p2);(try clear c4);(try clear c7);(try clear hcz10_0);(try clear hcz10_1);(try clear hcz10_2);(try clear hcz10_3);(try clear hcz8_0);(try clear hcz8_1);(try clear hcz8_2);(try clear hcz8_3);(try clear hfz10_0);(try clear hfz10_1);(try clear hfz10_2);(try clear hfz10_3);(try clear hfz8_0);(try clear hfz8_1);(try clear hfz8_2);(try clear hfz8_3);obtain ⟨x9_1,x23_1,rfl,HA,HK1,HO_6,HO_8,HO_9,BK175,BK176,HB⟩:=hrel;cases gk with
  | zero=>exact absurd HA.out (by simp [spec_l2changes.l0])
  | succ k1 =>
   have H:=HA.out;clear HA;simp only [spec_l2changes.l0] at H
   by_cases c13 : x23_1 < (t180.length : Int)
   ·rw [if_pos c13] at H;have c13b0 : decide (x23_1 < (t180.length : Int)) = true:=decide_eq_true c13;clear c13;by_cases c14 : 0 ≤ x23_1
    ·rw [if_pos c14] at H;have c14b0 : decide (0 ≤ x23_1) = true:=decide_eq_true c14;clear c14;by_cases c15 : x23_1 < (t180.length : Int)
     ·rw [if_pos c15] at H;have c15b0 : decide (x23_1 < (t180.length : Int)) = true:=decide_eq_true c15;clear c15;by_cases c16 : x23_1 < (t186.length : Int)
      ·rw [if_pos c16] at H;have c16b0 : decide (x23_1 < (t186.length : Int)) = true:=decide_eq_true c16;clear c16;by_cases c17 : (rd t180 x23_1) = (rd t186 x23_1)
       ·rw [if_pos c17] at H;have c17b0 : ((rd t180 x23_1) == (rd t186 x23_1)) = true:=beq_iff_eq.mpr c17;have c17b1 : ((rd t180 x23_1) != (rd t186 x23_1)) = false:=bne_eq_false_iff_eq.mpr c17;clear c17;have H':=zm H;clear H;try go_wp2
        have n0_:=zm (zR HO_6.out);have n1_:=zm (zR HO_8.out);have n2_:=zm (zR HO_9.out);have n3_:=zm (zI BK175.out);have n4_:=zm (zI BK176.out);have n5_:=zm (zC HB.out);clear HO_6;clear HO_8;clear HO_9;clear BK175;clear BK176;clear HB;have HO_6:=n0_;have HO_8:=n1_;have HO_9:=n2_;have BK175:=n3_;have BK176:=n4_;have HB:=n5_;clear n0_ n1_ n2_ n3_ n4_ n5_;have p189 : 0 ≤ (x23_1 : Int):=of_decide_eq_true (by first|(with_reducible assumption)|assumption)
        have q189 : x23_1 < (t180.length : Int):=of_decide_eq_true (by first|(with_reducible assumption)|assumption)
        obtain ⟨ad189,e189,hx189_0⟩:=Kd.at_int (zW HO_6.out).2.2 x23_1 p189 q189;cases e189;replace p189:=eq_true p189;replace q189:=eq_true q189;obtain ⟨Ao19,co19,eo19⟩:=zAb HO_8.out;(first|subst eo19|(injection eo19 with f1_ f2_ f3_;have f4_:=f1_.symm;have f5_:=f3_.symm;clear f1_ f2_ f3_;subst f4_;subst f5_))
        have p190 : 0 ≤ (x23_1 : Int):=of_decide_eq_true (by first|(with_reducible assumption)|assumption)
        have q190 : x23_1 < (t186.length : Int):=of_decide_eq_true (by first|(with_reducible assumption)|assumption)
        obtain ⟨ad190,e190,hx190_0⟩:=Kd.at_int (zW HO_8.out).2.2 x23_1 p190 q190;cases e190;replace p190:=eq_true p190;replace q190:=eq_true q190;refine start_ (n:=9) (S:=fun w'=>w'.cell? (ad189.add (x23_1).toNat) = some (.int .i64 (rd t180 x23_1))∧w'.cell? (ad190.add (x23_1).toNat) = some (.int .i64 (rd t186 x23_1))) (ds:=[]) #[n',n',n',n',n',n',n',n',n'] (by kernel_rfl) rfl rfl ⟨hx189_0,hx190_0⟩ (fun hHeld=>?_);refine with_tabW spec_l2changes.tab7 spec_l2changes.bits7 (fun HT_ HW_=>?_)
        generalize wr.drew = w18 at HO_6 HO_8 HO_9 BK175 BK176 HB hx189_0 hx190_0 hHeld ⊢
        refine pure_ (i:=0) (N:=some 26) (v:=?_) (a':=?_) #[y',n',n',n',n',n',n',n',n'] rfl rfl (any_of HT_.out (by kernel_rfl)) (fun _ _ _ h=>h) (Or.inl ⟨by rfl,?_⟩) ?_ ?_
        rotate_left
        ·intro w'
         go_simp
         with_reducible rfl
        rotate_left
        ·simp only [Act.put,List.setIfInBounds_toArray,List.set_cons_zero,List.set_cons_succ,i64_w,i32_w]
         rfl
        refine pure_ (i:=1) (N:=some 27) (v:=?_) (a':=?_) #[y',y',n',n',n',n',n',n',n'] rfl rfl (any_of HT_.out (by kernel_rfl)) (fun _ _ _ h=>h) (Or.inl ⟨by rfl,?_⟩) ?_ ?_
        rotate_left
        ·intro w'
         go_simp
         with_reducible rfl
        rotate_left
        ·simp only [Act.put,List.setIfInBounds_toArray,List.set_cons_zero,List.set_cons_succ,i64_w,i32_w]
         rfl
        refine pure_ (i:=2) (N:=some 28) (v:=?_) (a':=?_) #[y',y',y',n',n',n',n',n',n'] rfl rfl (any_of HT_.out (by kernel_rfl)) (fun _ _ _ h=>h) (Or.inl ⟨by rfl,?_⟩) ?_ ?_
        rotate_left
        ·intro w'
         go_simp
         with_reducible rfl
        rotate_left
        ·simp only [Act.put,List.setIfInBounds_toArray,List.set_cons_zero,List.set_cons_succ,i64_w,i32_w]
         rfl
        refine pure_ (i:=4) (N:=some 30) (v:=?_) (a':=?_) #[y',y',y',n',y',n',n',n',n'] rfl rfl (any_of HT_.out (by kernel_rfl)) (fun _ _ _ h=>h) (Or.inl ⟨by rfl,?_⟩) ?_ ?_
        rotate_left
        ·intro w'
         go_simp
         with_reducible rfl
        rotate_left
        ·simp only [Act.put,List.setIfInBounds_toArray,List.set_cons_zero,List.set_cons_succ,i64_w,i32_w]
         rfl
        refine pure_ (i:=5) (N:=some 31) (v:=?_) (a':=?_) #[y',y',y',n',y',y',n',n',n'] rfl rfl (any_of HT_.out (by kernel_rfl)) (fun _ _ _ h=>h) (Or.inl ⟨by rfl,?_⟩) ?_ ?_
        rotate_left
        ·intro w'
         go_simp
         with_reducible rfl
        rotate_left
        ·simp only [Act.put,List.setIfInBounds_toArray,List.set_cons_zero,List.set_cons_succ,i64_w,i32_w]
         rfl
        refine pure_ (i:=6) (N:=some 32) (v:=?_) (a':=?_) #[y',y',y',n',y',y',y',n',n'] rfl rfl (any_of HT_.out (by kernel_rfl)) (fun _ _ _ h=>h) (Or.inl ⟨by rfl,?_⟩) ?_ ?_
        rotate_left
        ·intro w'
         go_simp
         with_reducible rfl
        rotate_left
        ·simp only [Act.put,List.setIfInBounds_toArray,List.set_cons_zero,List.set_cons_succ,i64_w,i32_w]
         rfl
        refine take_ (i:=3) (N:=some 29) (v:=?_) (a':=?_) #[y',y',y',y',y',y',y',n',n'] rfl rfl (take_ofW HT_.out HW_.out (by kernel_rfl)) (fun _ _ _ h=>h) (Or.inl ⟨by rfl,?_⟩) hHeld ?_ ?_
        rotate_left
        ·rintro w' ⟨s0,s1⟩
         go_simp
         with_reducible rfl
        rotate_left
        ·simp only [Act.put,List.setIfInBounds_toArray,List.set_cons_zero,List.set_cons_succ,i64_w,i32_w]
         rfl
        refine take_ (i:=7) (N:=some 33) (v:=?_) (a':=?_) #[y',y',y',y',y',y',y',y',n'] rfl rfl (take_ofW HT_.out HW_.out (by kernel_rfl)) (fun _ _ _ h=>h) (Or.inl ⟨by rfl,?_⟩) hHeld ?_ ?_
        rotate_left
        ·rintro w' ⟨s0,s1⟩
         go_simp
         with_reducible rfl
        rotate_left
        ·simp only [Act.put,List.setIfInBounds_toArray,List.set_cons_zero,List.set_cons_succ,i64_w,i32_w]
         rfl
        refine pure_ (i:=8) (N:=some 34) (v:=?_) (a':=?_) #[y',y',y',y',y',y',y',y',y'] rfl rfl (any_of HT_.out (by kernel_rfl)) (fun _ _ _ h=>h) (Or.inl ⟨by rfl,?_⟩) ?_ ?_
        rotate_left
        ·intro w'
         go_simp
         with_reducible rfl
        rotate_left
        ·simp only [Act.put,List.setIfInBounds_toArray,List.set_cons_zero,List.set_cons_succ,i64_w,i32_w]
         rfl
        refine done_ (done_of HT_.out (by kernel_rfl)) ?_
        try go_wp2
        go_roundg k1
        case measure=>have:=HK1.out;omega
        case rel=>exact ⟨(x9_1),(wrap64 (x23_1 + 1)),(by first|rfl|(simp;done)|(simp [*];done)),H',⟨by have:=HK1.out;omega⟩,⟨by (with_reducible repeat (first|apply zP|apply zQ|apply zR));exact HO_6.out⟩,⟨by (with_reducible repeat (first|apply zP|apply zQ|apply zR));exact HO_8.out⟩,⟨by (with_reducible repeat (first|apply zP|apply zQ|apply zR));exact HO_9.out⟩,⟨by (with_reducible repeat (first|refine zH ?_ _|refine zI ?_|refine zG ?_ _));exact BK175.out⟩,⟨by (with_reducible repeat (first|refine zH ?_ _|refine zI ?_|refine zG ?_ _));exact BK176.out⟩,⟨by repeat (first|(with_reducible first|exact HB.out|apply zA|apply zB|apply zC|refine zF ?_ GE175.out|refine zF ?_ GE176.out)|exact HB.out)⟩⟩
       ·rw [if_neg c17] at H;have c17b0 : ((rd t180 x23_1) == (rd t186 x23_1)) = false:=beq_eq_false_iff_ne.mpr c17;have c17b1 : ((rd t180 x23_1) != (rd t186 x23_1)) = true:=bne_iff_ne.mpr c17;by_cases c20 : x9_1.length < 5864062014805
        ·rw [if_pos c20] at H;have LMc20:=zm c20;clear c20;obtain ⟨y193,hy193⟩ : ∃ y_ : List (S58),y_ = (x9_1 ++ [(⟨x23_1,rd t180 x23_1,rd t186 x23_1⟩ : S58)]):=⟨_,rfl⟩;replace H : (spec_l2changes.l0 k1 t180 t186 y193 (t180.length : Int) (wrap64 (x23_1 + 1))) = some r:=by first|(rw [hy193];with_reducible exact H)|(have H2_:=(Option.bind_some _ _).symm.trans H;rw [hy193];with_reducible exact H2_)|(have H2_:=(Option.bind_some _ _).symm.trans H;with_reducible exact H2_)|with_reducible exact H|(rw [hy193];exact H)|exact H
         have Ny193:=zm hy193;clear hy193;have H':=zm H;clear H;try go_wp2
         have n0_:=zm (zR HO_6.out);have n1_:=zm (zR HO_8.out);have n2_:=zm (zR HO_9.out);have n3_:=zm (zI BK175.out);have n4_:=zm (zI BK176.out);have n5_:=zm (zC HB.out);clear HO_6;clear HO_8;clear HO_9;clear BK175;clear BK176;clear HB;have HO_6:=n0_;have HO_8:=n1_;have HO_9:=n2_;have BK175:=n3_;have BK176:=n4_;have HB:=n5_;clear n0_ n1_ n2_ n3_ n4_ n5_;have p189 : 0 ≤ (x23_1 : Int):=of_decide_eq_true (by first|(with_reducible assumption)|assumption)
         have q189 : x23_1 < (t180.length : Int):=of_decide_eq_true (by first|(with_reducible assumption)|assumption)
         obtain ⟨ad189,e189,hx189_0⟩:=Kd.at_int (zW HO_6.out).2.2 x23_1 p189 q189;cases e189;replace p189:=eq_true p189;replace q189:=eq_true q189;obtain ⟨Ao22,co22,eo22⟩:=zAb HO_8.out;(first|subst eo22|(injection eo22 with f1_ f2_ f3_;have f4_:=f1_.symm;have f5_:=f3_.symm;clear f1_ f2_ f3_;subst f4_;subst f5_))
         have p190 : 0 ≤ (x23_1 : Int):=of_decide_eq_true (by first|(with_reducible assumption)|assumption)
         have q190 : x23_1 < (t186.length : Int):=of_decide_eq_true (by first|(with_reducible assumption)|assumption)
         obtain ⟨ad190,e190,hx190_0⟩:=Kd.at_int (zW HO_8.out).2.2 x23_1 p190 q190;cases e190;replace p190:=eq_true p190;replace q190:=eq_true q190;refine start_ (n:=9) (S:=fun w'=>w'.cell? (ad189.add (x23_1).toNat) = some (.int .i64 (rd t180 x23_1))∧w'.cell? (ad190.add (x23_1).toNat) = some (.int .i64 (rd t186 x23_1))) (ds:=[]) #[n',n',n',n',n',n',n',n',n'] (by kernel_rfl) rfl rfl ⟨hx189_0,hx190_0⟩ (fun hHeld=>?_);refine with_tabW spec_l2changes.tab7 spec_l2changes.bits7 (fun HT_ HW_=>?_)
         generalize wr.drew = w21 at HO_6 HO_8 HO_9 BK175 BK176 HB hx189_0 hx190_0 hHeld ⊢
         refine pure_ (i:=0) (N:=some 26) (v:=?_) (a':=?_) #[y',n',n',n',n',n',n',n',n'] rfl rfl (any_of HT_.out (by kernel_rfl)) (fun _ _ _ h=>h) (Or.inl ⟨by rfl,?_⟩) ?_ ?_
         rotate_left
         ·intro w'
          go_simp
          with_reducible rfl
         rotate_left
         ·simp only [Act.put,List.setIfInBounds_toArray,List.set_cons_zero,List.set_cons_succ,i64_w,i32_w]
          rfl
         refine pure_ (i:=1) (N:=some 27) (v:=?_) (a':=?_) #[y',y',n',n',n',n',n',n',n'] rfl rfl (any_of HT_.out (by kernel_rfl)) (fun _ _ _ h=>h) (Or.inl ⟨by rfl,?_⟩) ?_ ?_
         rotate_left
         ·intro w'
          go_simp
          with_reducible rfl
         rotate_left
         ·simp only [Act.put,List.setIfInBounds_toArray,List.set_cons_zero,List.set_cons_succ,i64_w,i32_w]
          rfl
         refine pure_ (i:=2) (N:=some 28) (v:=?_) (a':=?_) #[y',y',y',n',n',n',n',n',n'] rfl rfl (any_of HT_.out (by kernel_rfl)) (fun _ _ _ h=>h) (Or.inl ⟨by rfl,?_⟩) ?_ ?_
         rotate_left
         ·intro w'
          go_simp
          with_reducible rfl
         rotate_left
         ·simp only [Act.put,List.setIfInBounds_toArray,List.set_cons_zero,List.set_cons_succ,i64_w,i32_w]
          rfl
         refine pure_ (i:=4) (N:=some 30) (v:=?_) (a':=?_) #[y',y',y',n',y',n',n',n',n'] rfl rfl (any_of HT_.out (by kernel_rfl)) (fun _ _ _ h=>h) (Or.inl ⟨by rfl,?_⟩) ?_ ?_
         rotate_left
         ·intro w'
          go_simp
          with_reducible rfl
         rotate_left
         ·simp only [Act.put,List.setIfInBounds_toArray,List.set_cons_zero,List.set_cons_succ,i64_w,i32_w]
          rfl
         refine pure_ (i:=5) (N:=some 31) (v:=?_) (a':=?_) #[y',y',y',n',y',y',n',n',n'] rfl rfl (any_of HT_.out (by kernel_rfl)) (fun _ _ _ h=>h) (Or.inl ⟨by rfl,?_⟩) ?_ ?_
         rotate_left
         ·intro w'
          go_simp
          with_reducible rfl
         rotate_left
         ·simp only [Act.put,List.setIfInBounds_toArray,List.set_cons_zero,List.set_cons_succ,i64_w,i32_w]
          rfl
         refine pure_ (i:=6) (N:=some 32) (v:=?_) (a':=?_) #[y',y',y',n',y',y',y',n',n'] rfl rfl (any_of HT_.out (by kernel_rfl)) (fun _ _ _ h=>h) (Or.inl ⟨by rfl,?_⟩) ?_ ?_
         rotate_left
         ·intro w'
          go_simp
          with_reducible rfl
         rotate_left
         ·simp only [Act.put,List.setIfInBounds_toArray,List.set_cons_zero,List.set_cons_succ,i64_w,i32_w]
          rfl
         refine take_ (i:=3) (N:=some 29) (v:=?_) (a':=?_) #[y',y',y',y',y',y',y',n',n'] rfl rfl (take_ofW HT_.out HW_.out (by kernel_rfl)) (fun _ _ _ h=>h) (Or.inl ⟨by rfl,?_⟩) hHeld ?_ ?_
         rotate_left
         ·rintro w' ⟨s0,s1⟩
          go_simp
          with_reducible rfl
         rotate_left
         ·simp only [Act.put,List.setIfInBounds_toArray,List.set_cons_zero,List.set_cons_succ,i64_w,i32_w]
          rfl
         refine take_ (i:=7) (N:=some 33) (v:=?_) (a':=?_) #[y',y',y',y',y',y',y',y',n'] rfl rfl (take_ofW HT_.out HW_.out (by kernel_rfl)) (fun _ _ _ h=>h) (Or.inl ⟨by rfl,?_⟩) hHeld ?_ ?_
         rotate_left
         ·rintro w' ⟨s0,s1⟩
          go_simp
          with_reducible rfl
         rotate_left
         ·simp only [Act.put,List.setIfInBounds_toArray,List.set_cons_zero,List.set_cons_succ,i64_w,i32_w]
          rfl
         refine pure_ (i:=8) (N:=some 34) (v:=?_) (a':=?_) #[y',y',y',y',y',y',y',y',y'] rfl rfl (any_of HT_.out (by kernel_rfl)) (fun _ _ _ h=>h) (Or.inl ⟨by rfl,?_⟩) ?_ ?_
         rotate_left
         ·intro w'
          go_simp
          with_reducible rfl
         rotate_left
         ·simp only [Act.put,List.setIfInBounds_toArray,List.set_cons_zero,List.set_cons_succ,i64_w,i32_w]
          rfl
         refine done_ (done_of HT_.out (by kernel_rfl)) ?_
         try go_wp2
         have n0_:=zm (zR HO_6.out);have n1_:=zm (zR HO_8.out);have n2_:=zm (zR HO_9.out);have n3_:=zm (zI BK175.out);have n4_:=zm (zI BK176.out);have n5_:=zm (zC HB.out);clear HO_6;clear HO_8;clear HO_9;clear BK175;clear BK176;clear HB;have HO_6:=n0_;have HO_8:=n1_;have HO_9:=n2_;have BK175:=n3_;have BK176:=n4_;have HB:=n5_;clear n0_ n1_ n2_ n3_ n4_ n5_;have p191 : 0 ≤ (x23_1 : Int):=of_decide_eq_true (by first|(with_reducible assumption)|assumption)
         have q191 : x23_1 < (t180.length : Int):=of_decide_eq_true (by first|(with_reducible assumption)|assumption)
         obtain ⟨ad191,e191,hx191_0⟩:=Kd.at_int (zW HO_6.out).2.2 x23_1 p191 q191;obtain rfl : ad189 = ad191:=(by injection e191)
         replace p191:=eq_true p191;replace q191:=eq_true q191;have p192 : 0 ≤ (x23_1 : Int):=of_decide_eq_true (by first|(with_reducible assumption)|assumption)
         have q192 : x23_1 < (t186.length : Int):=of_decide_eq_true (by first|(with_reducible assumption)|assumption)
         obtain ⟨ad192,e192,hx192_0⟩:=Kd.at_int (zW HO_8.out).2.2 x23_1 p192 q192;obtain rfl : ad190 = ad192:=(by injection e192)
         replace p192:=eq_true p192;replace q192:=eq_true q192;refine start_ (n:=14) (S:=fun w'=>w'.cell? (ad189.add (x23_1).toNat) = some (.int .i64 (rd t180 x23_1))∧w'.cell? (ad190.add (x23_1).toNat) = some (.int .i64 (rd t186 x23_1))) (ds:=[11,12]) #[n',n',n',n',n',n',n',n',n',n',n',n',n',n'] (by kernel_rfl) rfl rfl ⟨hx191_0,hx192_0⟩ (fun hHeld=>?_);refine with_tabW spec_l2changes.tab8 spec_l2changes.bits8 (fun HT_ HW_=>?_)
         generalize w21.drew = w23 at HO_6 HO_8 HO_9 BK175 BK176 HB hx191_0 hx192_0 hHeld ⊢
         refine pure_ (i:=0) (N:=some 35) (v:=?_) (a':=?_) #[y',n',n',n',n',n',n',n',n',n',n',n',n',n'] rfl rfl (any_of HT_.out (by kernel_rfl)) (fun _ _ _ h=>h) (Or.inl ⟨by rfl,?_⟩) ?_ ?_
         rotate_left
         ·intro w'
          go_simp
          with_reducible rfl
         rotate_left
         ·simp only [Act.put,List.setIfInBounds_toArray,List.set_cons_zero,List.set_cons_succ,i64_w,i32_w]
          rfl
         refine pure_ (i:=1) (N:=some 36) (v:=?_) (a':=?_) #[y',y',n',n',n',n',n',n',n',n',n',n',n',n'] rfl rfl (any_of HT_.out (by kernel_rfl)) (fun _ _ _ h=>h) (Or.inl ⟨by rfl,?_⟩) ?_ ?_
         rotate_left
         ·intro w'
          go_simp
          with_reducible rfl
         rotate_left
         ·simp only [Act.put,List.setIfInBounds_toArray,List.set_cons_zero,List.set_cons_succ,i64_w,i32_w]
          rfl
         refine pure_ (i:=2) (N:=some 37) (v:=?_) (a':=?_) #[y',y',y',n',n',n',n',n',n',n',n',n',n',n'] rfl rfl (any_of HT_.out (by kernel_rfl)) (fun _ _ _ h=>h) (Or.inl ⟨by rfl,?_⟩) ?_ ?_
         rotate_left
         ·intro w'
          go_simp
          with_reducible rfl
         rotate_left
         ·simp only [Act.put,List.setIfInBounds_toArray,List.set_cons_zero,List.set_cons_succ,i64_w,i32_w]
          rfl
         refine pure_ (i:=3) (N:=some 38) (v:=?_) (a':=?_) #[y',y',y',y',n',n',n',n',n',n',n',n',n',n'] rfl rfl (any_of HT_.out (by kernel_rfl)) (fun _ _ _ h=>h) (Or.inl ⟨by rfl,?_⟩) ?_ ?_
         rotate_left
         ·intro w'
          go_simp
          with_reducible rfl
         rotate_left
         ·simp only [Act.put,List.setIfInBounds_toArray,List.set_cons_zero,List.set_cons_succ,i64_w,i32_w]
          rfl
         refine pure_ (i:=4) (N:=some 39) (v:=?_) (a':=?_) #[y',y',y',y',y',n',n',n',n',n',n',n',n',n'] rfl rfl (any_of HT_.out (by kernel_rfl)) (fun _ _ _ h=>h) (Or.inl ⟨by rfl,?_⟩) ?_ ?_
         rotate_left
         ·intro w'
          go_simp
          with_reducible rfl
         rotate_left
         ·simp only [Act.put,List.setIfInBounds_toArray,List.set_cons_zero,List.set_cons_succ,i64_w,i32_w]
          rfl
         refine pure_ (i:=6) (N:=some 41) (v:=?_) (a':=?_) #[y',y',y',y',y',n',y',n',n',n',n',n',n',n'] rfl rfl (any_of HT_.out (by kernel_rfl)) (fun _ _ _ h=>h) (Or.inl ⟨by rfl,?_⟩) ?_ ?_
         rotate_left
         ·intro w'
          go_simp
          with_reducible rfl
         rotate_left
         ·simp only [Act.put,List.setIfInBounds_toArray,List.set_cons_zero,List.set_cons_succ,i64_w,i32_w]
          rfl
         refine pure_ (i:=7) (N:=some 42) (v:=?_) (a':=?_) #[y',y',y',y',y',n',y',y',n',n',n',n',n',n'] rfl rfl (any_of HT_.out (by kernel_rfl)) (fun _ _ _ h=>h) (Or.inl ⟨by rfl,?_⟩) ?_ ?_
         rotate_left
         ·intro w'
          go_simp
          with_reducible rfl
         rotate_left
         ·simp only [Act.put,List.setIfInBounds_toArray,List.set_cons_zero,List.set_cons_succ,i64_w,i32_w]
          rfl
         refine pure_ (i:=8) (N:=some 43) (v:=?_) (a':=?_) #[y',y',y',y',y',n',y',y',y',n',n',n',n',n'] rfl rfl (any_of HT_.out (by kernel_rfl)) (fun _ _ _ h=>h) (Or.inl ⟨by rfl,?_⟩) ?_ ?_
         rotate_left
         ·intro w'
          go_simp
          with_reducible rfl
         rotate_left
         ·simp only [Act.put,List.setIfInBounds_toArray,List.set_cons_zero,List.set_cons_succ,i64_w,i32_w]
          rfl
         refine take_ (i:=5) (N:=some 40) (v:=?_) (a':=?_) #[y',y',y',y',y',y',y',y',y',n',n',n',n',n'] rfl rfl (take_ofW HT_.out HW_.out (by kernel_rfl)) (fun _ _ _ h=>h) (Or.inl ⟨by rfl,?_⟩) hHeld ?_ ?_
         rotate_left
         ·rintro w' ⟨s0,s1⟩
          go_simp
          with_reducible rfl
         rotate_left
         ·simp only [Act.put,List.setIfInBounds_toArray,List.set_cons_zero,List.set_cons_succ,i64_w,i32_w]
          rfl
         refine take_ (i:=9) (N:=some 44) (v:=?_) (a':=?_) #[y',y',y',y',y',y',y',y',y',y',n',n',n',n'] rfl rfl (take_ofW HT_.out HW_.out (by kernel_rfl)) (fun _ _ _ h=>h) (Or.inl ⟨by rfl,?_⟩) hHeld ?_ ?_
         rotate_left
         ·rintro w' ⟨s0,s1⟩
          go_simp
          with_reducible rfl
         rotate_left
         ·simp only [Act.put,List.setIfInBounds_toArray,List.set_cons_zero,List.set_cons_succ,i64_w,i32_w]
          rfl
         refine pure_ (i:=10) (N:=some 45) (v:=?_) (a':=?_) #[y',y',y',y',y',y',y',y',y',y',y',n',n',n'] rfl rfl (any_of HT_.out (by kernel_rfl)) (fun _ _ _ h=>h) (Or.inl ⟨by rfl,?_⟩) ?_ ?_
         rotate_left
         ·intro w'
          go_simp
          with_reducible rfl
         rotate_left
         ·simp only [Act.put,List.setIfInBounds_toArray,List.set_cons_zero,List.set_cons_succ,i64_w,i32_w]
          rfl
         refine last_ (i:=11) (N:=some 46) #[y',y',y',y',y',y',y',y',y',y',y',y',n',n'] rfl rfl (one_of HT_.out (by kernel_rfl)) (by decide) (fun K hK=>?_)
         refine value_ (w1:=?_) (v:=?_) (by rfl) rfl ?_ ?_
         rotate_left 2
         ·go_simp
          constructor
          ·rfl
          ·rfl
         refine hK.out _ _ ?_
         clear hK K;refine norm_ (a':=?_) ?_ ?_
         rotate_left
         ·show Act.put _ (some 46) _ = _
          simp only [Act.put,List.setIfInBounds_toArray,List.set_cons_zero,List.set_cons_succ,i64_w,i32_w]
          rfl
         refine last_ (i:=12) (N:=some 47) #[y',y',y',y',y',y',y',y',y',y',y',y',y',n'] rfl rfl (one_of HT_.out (by kernel_rfl)) (by decide) (fun K hK=>?_)
         refine Kd.R_append_step k58 (w0:=w) w.heap.size (by rfl) (.tmp 35) (.tmp 46) 28 58 (.agg #[(.int .i64 0),(.int .i64 0),(.int .i64 0)]) 24 rfl Try.underlying28 info58 rfl (by decide) (by omega) u9 x9_1 (⟨x23_1,rd t180 x23_1,rd t186 x23_1⟩ : S58) [.int .i64 x23_1,.int .i64 (rd t180 x23_1),.int .i64 (rd t186 x23_1)] (fun _=>True) (fun _=>False) rfl rfl ?aP (fun _ hk=>hk.elim) ?aF ?aO ?aB ?aS ?aL ?_
         (case aP=>exact k58_mkM _ _ _ (⟨x23_1,rd t180 x23_1,rd t186 x23_1⟩ : S58))
         (case aB=>exact (by repeat (first|(with_reducible first|exact HB.out|apply zA|apply zB|apply zC|refine zF ?_ GE175.out|refine zF ?_ GE176.out)|exact HB.out)))
         (case aF=>exact (fun _ _=>trivial))
         (case aO=>exact (by (with_reducible repeat (first|apply zP|apply zQ|apply zR));exact HO_9.out))
         (case aS=>exact (zJ (by repeat (first|(with_reducible first|exact HB.out|apply zA|apply zB|apply zC|refine zF ?_ GE175.out|refine zF ?_ GE176.out)|exact HB.out))))
         (case aL=>have:=LMc20.out;omega)
         intro v194 w24 ho hb hg hat
         rw [← Ny193.out] at ho;have n0_:=zm (Kd.R_over' (by (with_reducible repeat (first|apply zP|apply zQ|apply zR));exact HO_6.out) (Kd.R_typed (by (with_reducible repeat (first|apply zP|apply zQ|apply zR));exact HO_9.out)) (by decide) hg)
         have n1_:=zm (Kd.R_over' (by (with_reducible repeat (first|apply zP|apply zQ|apply zR));exact HO_8.out) (Kd.R_typed (by (with_reducible repeat (first|apply zP|apply zQ|apply zR));exact HO_9.out)) (by decide) hg)
         have n2_:=zm (blk_grown (g:=gb175) (o:=.cells #[.slice A0_0 l0_0.length c0_0,.slice A0_1 l0_1.length c0_1,.slice A0_2 l0_2.length c0_2,.slice A0_3 l0_3.length c0_3] 30 (0,0)) (by (with_reducible repeat (first|refine zH ?_ _|refine zI ?_|refine zG ?_ _));exact BK175.out) hg (Kd.R_ne HO_9.out BK175.out (by decide)))
         have n3_:=zm (blk_grown (g:=gb176) (o:=.cells #[.slice A1_0 l1_0.length c1_0,.slice A1_1 l1_1.length c1_1,.slice A1_2 l1_2.length c1_2,.slice A1_3 l1_3.length c1_3] 30 (0,0)) (by (with_reducible repeat (first|refine zH ?_ _|refine zI ?_|refine zG ?_ _));exact BK176.out) hg (Kd.R_ne HO_9.out BK176.out (by decide)))
         have n4_:=zm (hb);have n5_:=zm (ho);clear HO_6;clear HO_8;clear BK175;clear BK176;clear HB;clear HO_9;have HO_6:=n0_;have HO_8:=n1_;have BK175:=n2_;have BK176:=n3_;have HB:=n4_;have HO195:=n5_;clear n0_ n1_ n2_ n3_ n4_ n5_;clear ho hb hg hat;refine hK.out _ _ ?_
         clear hK K;refine norm_ (a':=?_) ?_ ?_
         rotate_left
         ·show Act.put _ (some 47) _ = _
          simp only [Act.put,List.setIfInBounds_toArray,List.set_cons_zero,List.set_cons_succ,i64_w,i32_w]
          rfl
         refine pure_ (i:=13) (N:=some 9) (v:=?_) (a':=?_) #[y',y',y',y',y',y',y',y',y',y',y',y',y',y'] rfl rfl (any_of HT_.out (by kernel_rfl)) (fun _ _ _ h=>h) (Or.inl ⟨by rfl,?_⟩) ?_ ?_
         rotate_left
         ·intro w'
          go_simp
          with_reducible rfl
         rotate_left
         ·simp only [Act.put,List.setIfInBounds_toArray,List.set_cons_zero,List.set_cons_succ,i64_w,i32_w]
          rfl
         refine done_ (done_of HT_.out (by kernel_rfl)) ?_
         try go_wp2
         go_roundg k1
         case measure=>have:=HK1.out;omega
         case rel=>exact ⟨(y193),(wrap64 (x23_1 + 1)),(by first|rfl|(simp;done)|(simp [*];done)),H',⟨by have:=HK1.out;omega⟩,⟨by (with_reducible repeat (first|apply zP|apply zQ|apply zR));exact HO_6.out⟩,⟨by (with_reducible repeat (first|apply zP|apply zQ|apply zR));exact HO_8.out⟩,⟨by (with_reducible repeat (first|apply zP|apply zQ|apply zR));exact HO195.out⟩,⟨by (with_reducible repeat (first|refine zH ?_ _|refine zI ?_|refine zG ?_ _));exact BK175.out⟩,⟨by (with_reducible repeat (first|refine zH ?_ _|refine zI ?_|refine zG ?_ _));exact BK176.out⟩,⟨by repeat (first|(with_reducible first|exact HB.out|apply zA|apply zB|apply zC|refine zF ?_ GE175.out|refine zF ?_ GE176.out)|exact HB.out)⟩⟩
        ·rw [if_neg c20] at H;exact absurd H (by simp)
      ·rw [if_neg c16] at H;exact absurd H (by simp)
     ·rw [if_neg c15] at H;exact absurd H (by simp)
    ·rw [if_neg c14] at H;exact absurd H (by simp)
   ·rw [if_neg c13] at H;have c13b0 : decide (x23_1 < (t180.length : Int)) = false:=decide_eq_false c13;clear c13;obtain rfl:=Option.some.inj H;go_wp2;go_ret
    exact ⟨_,by first|rfl|(simp [errW_none,errW_some] <;> rfl)|(simp [*,errW_none,errW_some] <;> rfl),by (with_reducible repeat (first|apply zP|apply zQ|apply zR));exact HO_9.out,by repeat (first|(with_reducible first|exact HB.out|apply zA|apply zB|apply zC|refine zF ?_ GE175.out|refine zF ?_ GE176.out)|exact HB.out)⟩

end Go.Proofs.Ytpdcghclcgbcfab.U
