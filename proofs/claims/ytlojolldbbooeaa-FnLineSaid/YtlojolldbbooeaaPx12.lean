-- written by a program of this session (after the kit's print), not trusted: Lean checks it
import Derived.Test.YtlojolldbbooeaaPx0
import Derived.Test.YtlojolldbbooeaaPx11
namespace Go.Proofs.Ytlojolldbbooeaa.P
open Go.RowKit Go.Proofs.YtlojolldbbooeaaW.PrintWords Go.Proofs.YtlojolldbbooeaaW.PrintLast Go.Proofs.YtlojolldbbooeaaW.PrintMore
open Go.Proofs.YtlojolldbbooeaaW.PrintWords renaming below_alloc → zA, below_drew1 → zC, below_set → zF, below_size → zJ, below_step → zK, blk_alloc → zG, blk_below → zL, blk_cell → zD, blk_drew → zI, blk_drewN → zH, blk_frozen → zE, box_event → zN, gate_dst → zM, pw_below_drewN → zB
open Go.Proofs.YtlojolldbbooeaaW.PrintWords.Kd renaming C_alloc → zT, C_below → zY, C_drew → zV, C_drewN → zU, R_alloc → zP, R_base → zCb, R_below → zHb, R_drew → zR, R_drewN → zQ, R_elder' → zGb, R_lower → zZ, R_mono → zS, R_reads' → zW, R_slice → zAb
open Go.Proofs.YtlojolldbbooeaaW.PrintWords.Aside0 renaming mk → zm
attribute [local go_sem] max2_int min2_int max_two min_two max_three min_three max_four min_four   -- for this text's walks alone
set_option linter.unusedVariables false
set_option linter.unusedSimpArgs false

/-! ### spec_l2both: function 19 -/
mutual
def spec_l2both.l0 : Nat→List Int→List Int→Int→Int→List Int→List Int→List Bool→List (List Bool)→Option (List Int × List Int)
 | 0,_,_,_,_,_,_,_,_=>none
 | k + 1,x4,x5,x22,x23,x313000,x313001,x313002,x313003=>if x23 < x22 then (if 0 ≤ x23 then (if x23 < (x313003.length : Int) then ((spec_l2lamp.f k (rd_L3 x313003 x23) 0).bind fun t320=>(if x23 < (x5.length : Int) then (spec_l2both.l0 k x4 (x5.set (x23 : Int).toNat t320) x22 (wrap64 (x23 + 1)) x313000 x313001 x313002 x313003) else (none))) else (none)) else (none)) else (spec_l2both.l1 k x4 x5 x313000 x313001 x313002 x313003)
def spec_l2both.l1 : Nat→List Int→List Int→List Int→List Int→List Bool→List (List Bool)→Option (List Int × List Int)
 | 0,_,_,_,_,_,_=>none
 | k + 1,x4,x5,x313000,x313001,x313002,x313003=>spec_l2both.l2 k x4 x5 ([] : List Int) ([] : List Int) true (x5.length : Int) 0 x313000 x313001 x313002 x313003
def spec_l2both.l2 : Nat→List Int→List Int→List Int→List Int→Bool→Int→Int→List Int→List Int→List Bool→List (List Bool)→Option (List Int × List Int)
 | 0,_,_,_,_,_,_,_,_,_,_,_=>none
 | k + 1,x4,x5,x7,x8,x9,x37,x38,x313000,x313001,x313002,x313003=>if x38 < x37 then ((spec_l2want.f x313000 x313001 x313002 x313003 x5 x38).bind fun t322=>(if 0 ≤ x38 then (if x38 < (x313003.length : Int) then ((spec_l2lamp.f k (rd_L3 x313003 x38) t322).bind fun t324=>(if x9 = true then (if x38 < (x5.length : Int) then (if t324 = (rd x5 x38) then (if x38 < (x4.length : Int) then (if x7.length < 17592186044416 then (if x8.length < 17592186044416 then (spec_l2both.l2 k x4 x5 (x7 ++ [t322]) (x8 ++ [t324]) (t322 == (rd x4 x38)) x37 (wrap64 (x38 + 1)) x313000 x313001 x313002 x313003) else (none)) else (none)) else (none)) else (if x7.length < 17592186044416 then (if x8.length < 17592186044416 then (spec_l2both.l2 k x4 x5 (x7 ++ [t322]) (x8 ++ [t324]) false x37 (wrap64 (x38 + 1)) x313000 x313001 x313002 x313003) else (none)) else (none))) else (none)) else (if x7.length < 17592186044416 then (if x8.length < 17592186044416 then (spec_l2both.l2 k x4 x5 (x7 ++ [t322]) (x8 ++ [t324]) false x37 (wrap64 (x38 + 1)) x313000 x313001 x313002 x313003) else (none)) else (none)))) else (none)) else (none))) else (if x9 = true then (some (x4,x5)) else (spec_l2both.l1 k x7 x8 x313000 x313001 x313002 x313003))
end
def spec_l2both.f (k : Nat) (l0_0 : List Int) (l0_1 : List Int) (l0_2 : List Bool) (l0_3 : List (List Bool)) : Option (List Int × List Int):=if 0 ≤ (l0_0.length : Int) then (if ((l0_0.length : Int) : Int).toNat ≤ 35184372088832 then ((some (List.replicate ((l0_0.length : Int) : Int).toNat 0 : List Int)).bind fun y316=>(spec_l2both.l0 k (List.replicate ((l0_0.length : Int) : Int).toNat 0) y316 (y316.length : Int) 0 l0_0 l0_1 l0_2 l0_3)) else (none)) else (none)
theorem spec_l2both.mono_l : ∀ k,(∀ y0 y1 y2 y3 y4 y5 y6 y7,LeO (spec_l2both.l0 k y0 y1 y2 y3 y4 y5 y6 y7) (spec_l2both.l0 (k + 1) y0 y1 y2 y3 y4 y5 y6 y7))∧(∀ y0 y1 y2 y3 y4 y5,LeO (spec_l2both.l1 k y0 y1 y2 y3 y4 y5) (spec_l2both.l1 (k + 1) y0 y1 y2 y3 y4 y5))∧(∀ y0 y1 y2 y3 y4 y5 y6 y7 y8 y9 y10,LeO (spec_l2both.l2 k y0 y1 y2 y3 y4 y5 y6 y7 y8 y9 y10) (spec_l2both.l2 (k + 1) y0 y1 y2 y3 y4 y5 y6 y7 y8 y9 y10))
 | 0=>⟨fun _ _ _ _ _ _ _ _ r h=>by simp [spec_l2both.l0] at h,fun _ _ _ _ _ _ r h=>by simp [spec_l2both.l1] at h,fun _ _ _ _ _ _ _ _ _ _ _ r h=>by simp [spec_l2both.l2] at h⟩
 | k + 1=>by
  obtain ⟨ih0,ih1,ih2⟩:=spec_l2both.mono_l k
  refine ⟨?_,?_,?_⟩
  ·intro y0 y1 y2 y3 y4 y5 y6 y7
   unfold spec_l2both.l0
   repeat' first
   | (with_reducible exact ih0 _ _ _ _ _ _ _ _)
   | (with_reducible exact ih1 _ _ _ _ _ _)
   | (with_reducible exact ih2 _ _ _ _ _ _ _ _ _ _ _)
   | (with_reducible exact spec_l2lamp.mono _ _ _)
   | (with_reducible exact LeO.refl _)
   | (with_reducible exact LeO.none _)
   | (with_reducible refine LeO.ite ?_ ?_)
   | (with_reducible refine LeO.bind ?_ (fun _=>?_))
   | exact ih0 _ _ _ _ _ _ _ _
   | exact ih1 _ _ _ _ _ _
   | exact ih2 _ _ _ _ _ _ _ _ _ _ _
   | exact spec_l2lamp.mono _ _ _
   | exact LeO.none _
   | refine LeO.ite ?_ ?_
   | refine LeO.bind ?_ (fun _=>?_)
  ·intro y0 y1 y2 y3 y4 y5
   unfold spec_l2both.l1
   repeat' first
   | (with_reducible exact ih0 _ _ _ _ _ _ _ _)
   | (with_reducible exact ih1 _ _ _ _ _ _)
   | (with_reducible exact ih2 _ _ _ _ _ _ _ _ _ _ _)
   | (with_reducible exact spec_l2lamp.mono _ _ _)
   | (with_reducible exact LeO.refl _)
   | (with_reducible exact LeO.none _)
   | (with_reducible refine LeO.ite ?_ ?_)
   | (with_reducible refine LeO.bind ?_ (fun _=>?_))
   | exact ih0 _ _ _ _ _ _ _ _
   | exact ih1 _ _ _ _ _ _
   | exact ih2 _ _ _ _ _ _ _ _ _ _ _
   | exact spec_l2lamp.mono _ _ _
   | exact LeO.none _
   | refine LeO.ite ?_ ?_
   | refine LeO.bind ?_ (fun _=>?_)
  ·intro y0 y1 y2 y3 y4 y5 y6 y7 y8 y9 y10
   unfold spec_l2both.l2
   repeat' first
   | (with_reducible exact ih0 _ _ _ _ _ _ _ _)
   | (with_reducible exact ih1 _ _ _ _ _ _)
   | (with_reducible exact ih2 _ _ _ _ _ _ _ _ _ _ _)
   | (with_reducible exact spec_l2lamp.mono _ _ _)
   | (with_reducible exact LeO.refl _)
   | (with_reducible exact LeO.none _)
   | (with_reducible refine LeO.ite ?_ ?_)
   | (with_reducible refine LeO.bind ?_ (fun _=>?_))
   | exact ih0 _ _ _ _ _ _ _ _
   | exact ih1 _ _ _ _ _ _
   | exact ih2 _ _ _ _ _ _ _ _ _ _ _
   | exact spec_l2lamp.mono _ _ _
   | exact LeO.none _
   | refine LeO.ite ?_ ?_
   | refine LeO.bind ?_ (fun _=>?_)
theorem spec_l2both.mono : ∀ a0 a1 a2 a3 k,LeO (spec_l2both.f k a0 a1 a2 a3) (spec_l2both.f (k + 1) a0 a1 a2 a3):=by
 intro a0 a1 a2 a3 k
 obtain ⟨ih0,ih1,ih2⟩:=spec_l2both.mono_l k
 unfold spec_l2both.f
 repeat' first
   | (with_reducible exact ih0 _ _ _ _ _ _ _ _)
   | (with_reducible exact ih1 _ _ _ _ _ _)
   | (with_reducible exact ih2 _ _ _ _ _ _ _ _ _ _ _)
   | (with_reducible exact spec_l2lamp.mono _ _ _)
   | (with_reducible exact LeO.refl _)
   | (with_reducible exact LeO.none _)
   | (with_reducible refine LeO.ite ?_ ?_)
   | (with_reducible refine LeO.bind ?_ (fun _=>?_))
   | exact ih0 _ _ _ _ _ _ _ _
   | exact ih1 _ _ _ _ _ _
   | exact ih2 _ _ _ _ _ _ _ _ _ _ _
   | exact spec_l2lamp.mono _ _ _
   | exact LeO.none _
   | refine LeO.ite ?_ ?_
   | refine LeO.bind ?_ (fun _=>?_)
set_option maxHeartbeats 8000000 in
set_option maxRecDepth 100000 in
theorem spec_l2both.calls (k : Nat) (A0_0 : Option Addr) (c0_0 : Nat) (l0_0 : List Int) (A0_1 : Option Addr) (c0_1 : Nat) (l0_1 : List Int) (A0_2 : Option Addr) (c0_2 : Nat) (l0_2 : List Bool) (A0_3 : Option Addr) (c0_3 : Nat) (l0_3 : List (List Bool)) (r1 : List Int) (r2 : List Int) (w : World) (hr0_0 : Kd.C (Kd.int .i64) w A0_0 l0_0.length l0_0) (hc0_0 : l0_0.length ≤ c0_0) (hr0_1 : Kd.C (Kd.int .i64) w A0_1 l0_1.length l0_1) (hc0_1 : l0_1.length ≤ c0_1) (hr0_2 : Kd.C Kd.bool w A0_2 l0_2.length l0_2) (hc0_2 : l0_2.length ≤ c0_2) (hr0_3 : Kd.C (Kd.slice 4 Kd.bool) w A0_3 l0_3.length l0_3) (hc0_3 : l0_3.length ≤ c0_3) (h : spec_l2both.f k l0_0 l0_1 l0_2 l0_3 = some (r1,r2)) :
  Calls Try.prog 19 #[.agg #[.slice A0_0 l0_0.length c0_0,.slice A0_1 l0_1.length c0_1,.slice A0_2 l0_2.length c0_2,.slice A0_3 l0_3.length c0_3]] w fun e w'=>∃ v0_ v1_ : Value,e = .returned (.tuple #[v0_,v1_])∧Kd.R (Kd.int .i64) 3 w' w.heap.size (fun k_=>some k_ ≠ (v1_ : Value).ownBlock) v0_ r1∧Kd.R (Kd.int .i64) 3 w' w.heap.size (fun k_=>some k_ ≠ (v0_ : Value).ownBlock) v1_ r2∧Below w.heap.size w w':=by
 have hu29:=Try.underlying29
 have HR0_0:=zm hr0_0
 have HC0_0:=zm hc0_0
 clear hr0_0 hc0_0
 have HR0_1:=zm hr0_1
 have HC0_1:=zm hc0_1
 clear hr0_1 hc0_1
 have HR0_2:=zm hr0_2
 have HC0_2:=zm hc0_2
 clear hr0_2 hc0_2
 have HR0_3:=zm hr0_3
 have HC0_3:=zm hc0_3
 clear hr0_3 hc0_3
 have HB:=zm (Below.refl w.heap.size w)
 have H : (if 0 ≤ (l0_0.length : Int) then (if ((l0_0.length : Int) : Int).toNat ≤ 35184372088832 then ((some (List.replicate ((l0_0.length : Int) : Int).toNat 0 : List Int)).bind fun y316=>(spec_l2both.l0 k (List.replicate ((l0_0.length : Int) : Int).toNat 0) y316 (y316.length : Int) 0 l0_0 l0_1 l0_2 l0_3)) else (none)) else (none)) = some (r1,r2):=h
 clear h
 by_cases c2 : 0 ≤ (l0_0.length : Int)
 ·rw [if_pos c2] at H
  have c2b0:=eq_true c2
  have c2b1 : decide (0 ≤ (l0_0.length : Int)) = true:=decide_eq_true c2
  clear c2
  by_cases c3 : ((l0_0.length : Int) : Int).toNat ≤ 35184372088832
  ·rw [if_pos c3] at H
   have c3b0:=eq_true c3
   have c3b1 : decide (((l0_0.length : Int) : Int).toNat ≤ 35184372088832) = true:=decide_eq_true c3
   clear c3
   obtain ⟨y313,hy313⟩ : ∃ y_ : List Int,y_ = (List.replicate ((l0_0.length : Int) : Int).toNat 0):=⟨_,rfl⟩
   replace H : ((some (List.replicate ((l0_0.length : Int) : Int).toNat 0 : List Int)).bind fun y316=>(spec_l2both.l0 k y313 y316 (y316.length : Int) 0 l0_0 l0_1 l0_2 l0_3)) = some (r1,r2):=by first|(rw [hy313];with_reducible exact H)|(have H2_:=(Option.bind_some _ _).symm.trans H;rw [hy313];with_reducible exact H2_)|(have H2_:=(Option.bind_some _ _).symm.trans H;with_reducible exact H2_)|with_reducible exact H|(rw [hy313];exact H)|exact H
   have Ny313:=zm hy313
   clear hy313
   obtain ⟨y316,hy316⟩ : ∃ y_ : List Int,y_ = (List.replicate ((l0_0.length : Int) : Int).toNat 0):=⟨_,rfl⟩
   replace H : (spec_l2both.l0 k y313 y316 (y316.length : Int) 0 l0_0 l0_1 l0_2 l0_3) = some (r1,r2):=by first|(rw [hy316];with_reducible exact H)|(have H2_:=(Option.bind_some _ _).symm.trans H;rw [hy316];with_reducible exact H2_)|(have H2_:=(Option.bind_some _ _).symm.trans H;with_reducible exact H2_)|with_reducible exact H|(rw [hy316];exact H)|exact H
   have Ny316:=zm hy316
   clear hy316
   have H':=zm H
   clear H
   go_enter Try.func19,Try.ntmps19
   go_wp2_with (first|((with_reducible refine zM (N:=1) rfl ?_);refine zN ?hg (N:=1) ?hd (cs:=#[.slice A0_0 l0_0.length c0_0,.slice A0_1 l0_1.length c0_1,.slice A0_2 l0_2.length c0_2,.slice A0_3 l0_3.length c0_3]) (t:=29) ?hr ?_;(case hd=>rfl);(case hg=>rfl);(case hr=>first|(go_simp;done)|(go_simp;rfl));intro gb312 hg w4 hbox hb;have n0_:=zm (zK (by repeat (first|(with_reducible first|exact HB.out|apply zA|apply zB|apply zC)|exact HB.out)) hb);have n1_:=zm (hbox);have n2_:=zm ((by rw [hg];exact (zJ (by repeat (first|(with_reducible first|exact HB.out|apply zA|apply zB|apply zC)|exact HB.out))) : w.heap.size ≤ gb312));have n3_:=zm ((by rw [hg];exact (zJ (by repeat (first|(with_reducible first|exact HB.out|apply zA|apply zB|apply zC)|exact HB.out))) : w.heap.size ≤ gb312));clear HB;have HB:=n0_;have BK312:=n1_;have GW312:=n2_;have GE312:=n3_;clear n0_ n1_ n2_ n3_;clear hb hbox hg;have hcz5_0 : w4.cell? ⟨gb312,0,none⟩ = some (.slice A0_0 l0_0.length c0_0):=(zD BK312.out 0).trans rfl;have hcz5_1 : w4.cell? ⟨gb312,1,none⟩ = some (.slice A0_1 l0_1.length c0_1):=(zD BK312.out 1).trans rfl;have hcz5_2 : w4.cell? ⟨gb312,2,none⟩ = some (.slice A0_2 l0_2.length c0_2):=(zD BK312.out 2).trans rfl;have hcz5_3 : w4.cell? ⟨gb312,3,none⟩ = some (.slice A0_3 l0_3.length c0_3):=(zD BK312.out 3).trans rfl;have hfz5_0:=zE BK312.out 0;have hfz5_1:=zE BK312.out 1;have hfz5_2:=zE BK312.out 2;have hfz5_3:=zE BK312.out 3)|((with_reducible refine zM (N:=16) rfl ?_);refine Kd.R_make (Kd.int .i64) _ 3 rfl (N:=16) rfl 25 _ _ rfl (l0_0.length : Int) rfl rfl Try.underlying25 (.int .i64 0) 8 info3 rfl (by decide) (by omega) 0 (ok:=fun _=>True) (okp:=fun _=>True) rfl (fun _ hk=>hk) trivial (of_decide_eq_true (by first|(with_reducible assumption)|assumption)) (Nat.le_trans (Nat.mul_le_mul_right _ (of_decide_eq_true (by first|(with_reducible assumption)|assumption) : (l0_0.length : Int).toNat ≤ 35184372088832)) (by omega)) (Below.refl _ _) (Nat.le_refl _) ?_;intro v314 w6 ho7 hb hg_ hnew_;clear hg_ hnew_;(first|rw [← Ny313.out] at ho7|(simp only [Int.reduceToNat] at ho7;rw [← Ny313.out] at ho7));have n0_:=zm (zZ ho7 (zJ (by repeat (first|(with_reducible first|exact HB.out|apply zA|apply zB|apply zC|refine zF ?_ GE312.out)|exact HB.out))));have n1_:=zm (zL (g:=gb312) (o:=.cells #[.slice A0_0 l0_0.length c0_0,.slice A0_1 l0_1.length c0_1,.slice A0_2 l0_2.length c0_2,.slice A0_3 l0_3.length c0_3] 29 (0,0)) (by (with_reducible repeat (first|refine zH ?_ _|refine zI ?_|refine zG ?_ _));exact BK312.out) hb);have n2_:=zm (zK (by repeat (first|(with_reducible first|exact HB.out|apply zA|apply zB|apply zC|refine zF ?_ GE312.out)|exact HB.out)) hb);clear BK312;clear HB;have HO315:=n0_;have BK312:=n1_;have HB:=n2_;clear n0_ n1_ n2_;clear hb ho7;have hcz8_0 : w6.cell? ⟨gb312,0,none⟩ = some (.slice A0_0 l0_0.length c0_0):=(zD BK312.out 0).trans rfl;have hcz8_1 : w6.cell? ⟨gb312,1,none⟩ = some (.slice A0_1 l0_1.length c0_1):=(zD BK312.out 1).trans rfl;have hcz8_2 : w6.cell? ⟨gb312,2,none⟩ = some (.slice A0_2 l0_2.length c0_2):=(zD BK312.out 2).trans rfl;have hcz8_3 : w6.cell? ⟨gb312,3,none⟩ = some (.slice A0_3 l0_3.length c0_3):=(zD BK312.out 3).trans rfl;have hfz8_0:=zE BK312.out 0;have hfz8_1:=zE BK312.out 1;have hfz8_2:=zE BK312.out 2;have hfz8_3:=zE BK312.out 3)|((with_reducible refine zM (N:=20) rfl ?_);refine Kd.R_make (Kd.int .i64) _ 3 rfl (N:=20) rfl 25 _ _ rfl (l0_0.length : Int) rfl rfl Try.underlying25 (.int .i64 0) 8 info3 rfl (by decide) (by omega) 0 (ok:=fun _=>True) (okp:=fun _=>True) rfl (fun _ hk=>hk) trivial (of_decide_eq_true (by first|(with_reducible assumption)|assumption)) (Nat.le_trans (Nat.mul_le_mul_right _ (of_decide_eq_true (by first|(with_reducible assumption)|assumption) : (l0_0.length : Int).toNat ≤ 35184372088832)) (by omega)) (Below.refl _ _) (Nat.le_refl _) ?_;intro v317 w9 ho10 hb hg_ hnew_;clear hg_ hnew_;(first|rw [← Ny316.out] at ho10|(simp only [Int.reduceToNat] at ho10;rw [← Ny316.out] at ho10));have n0_:=zm (zGb (by (with_reducible repeat (first|apply zP|apply zQ|apply zR));exact HO315.out) (zCb ho10) hb);have n1_:=zm (zZ (Kd.R_new' ho10 (Kd.R_lt (by (with_reducible repeat (first|apply zP|apply zQ|apply zR));exact HO315.out))) (zJ (by repeat (first|(with_reducible first|exact HB.out|apply zA|apply zB|apply zC|refine zF ?_ GE312.out)|exact HB.out))));have n2_:=zm (zL (g:=gb312) (o:=.cells #[.slice A0_0 l0_0.length c0_0,.slice A0_1 l0_1.length c0_1,.slice A0_2 l0_2.length c0_2,.slice A0_3 l0_3.length c0_3] 29 (0,0)) (by (with_reducible repeat (first|refine zH ?_ _|refine zI ?_|refine zG ?_ _));exact BK312.out) hb);have n3_:=zm (zK (by repeat (first|(with_reducible first|exact HB.out|apply zA|apply zB|apply zC|refine zF ?_ GE312.out)|exact HB.out)) hb);clear HO315;clear BK312;clear HB;have HO315:=n0_;have HO318:=n1_;have BK312:=n2_;have HB:=n3_;clear n0_ n1_ n2_ n3_;clear hb ho10;obtain ⟨Ao11,co11,eo11⟩:=zAb HO318.out;subst eo11))
   go_loopg [23] k (fun kq v23 w'=>∃ (x5_1 : List Int) (x23_1 : Int),v23 = .int .i64 x23_1∧Aside0 (spec_l2both.l0 kq y313 x5_1 (y316.length : Int) x23_1 l0_0 l0_1 l0_2 l0_3 = some (r1,r2))∧Aside0 (kq ≤ k)∧Aside0 (Kd.R (Kd.int .i64) 3 w' w.heap.size (fun k_=>some k_ ≠ ((.slice Ao11 y316.length co11) : Value).ownBlock) v314 y313)∧Aside0 (Kd.R (Kd.int .i64) 3 w' w.heap.size (fun k_=>some k_ ≠ (v314 : Value).ownBlock) (.slice Ao11 y316.length co11) x5_1)∧Aside0 (w'.heap[gb312]? = some (.cells #[(.slice A0_0 l0_0.length c0_0),(.slice A0_1 l0_1.length c0_1),(.slice A0_2 l0_2.length c0_2),(.slice A0_3 l0_3.length c0_3)] 29 (0,0)))∧Aside0 (Below w.heap.size w w'))
   case atStart=>exact ⟨(y316),(0),(by first|rfl|(simp;done)|(simp [*];done)),H',⟨Nat.le_refl _⟩,⟨by (with_reducible repeat (first|apply zP|apply zQ|apply zR));exact zS HO315.out (fun _ hk=>hk.2)⟩,⟨by (with_reducible repeat (first|apply zP|apply zQ|apply zR));exact zS HO318.out (fun _ hk=>hk.2)⟩,⟨by (with_reducible repeat (first|refine zH ?_ _|refine zI ?_|refine zG ?_ _));exact BK312.out⟩,⟨by repeat (first|(with_reducible first|exact HB.out|apply zA|apply zB|apply zC|refine zF ?_ GE312.out)|exact HB.out)⟩⟩
   case round =>
    clear H'
    try clear c1
    try clear c2
    try clear c2b0
    try clear c2b1
    try clear p2
    try clear c3
    try clear c3b0
    try clear c3b1
    try clear hcz5_0
    try clear hcz5_1
    try clear hcz5_2
    try clear hcz5_3
    try clear hcz8_0
    try clear hcz8_1
    try clear hcz8_2
    try clear hcz8_3
    try clear hfz5_0
    try clear hfz5_1
    try clear hfz5_2
    try clear hfz5_3
    try clear hfz8_0
    try clear hfz8_1
    try clear hfz8_2
    try clear hfz8_3
    obtain ⟨x5_1,x23_1,rfl,HA,HK1,HO_4,HO_5,BK312,HB⟩:=hrel
    have hl5_1:=(zW HO_5.out).1
    rw [hl5_1] at HO_5
    (try simp only [hl5_1])
    (try simp only [hl5_1] at BK312)
    (try simp only [hl5_1] at HO_4)
    cases gk with
    | zero=>exact absurd HA.out (by simp [spec_l2both.l0])
    | succ k1 =>
     have H:=HA.out
     clear HA
     simp only [spec_l2both.l0] at H
     by_cases c12 : x23_1 < (y316.length : Int)
     ·rw [if_pos c12] at H
      have c12b0 : decide (x23_1 < (y316.length : Int)) = true:=decide_eq_true c12
      have c12b0_h:=c12b0
      (try simp only [hl5_1] at c12b0_h)
      clear c12
      by_cases c13 : 0 ≤ x23_1
      ·rw [if_pos c13] at H
       have c13b0 : decide (0 ≤ x23_1) = true:=decide_eq_true c13
       have c13b0_h:=c13b0
       (try simp only [hl5_1] at c13b0_h)
       clear c13
       by_cases c14 : x23_1 < (l0_3.length : Int)
       ·rw [if_pos c14] at H
        have c14b0 : decide (x23_1 < (l0_3.length : Int)) = true:=decide_eq_true c14
        have c14b0_h:=c14b0
        (try simp only [hl5_1] at c14b0_h)
        clear c14
        replace H:=Option.bind_eq_some_iff.mp H
        obtain ⟨t320,A150,H⟩:=H
        replace H : (if x23_1 < (x5_1.length : Int) then (spec_l2both.l0 k1 y313 (x5_1.set (x23_1 : Int).toNat t320) (y316.length : Int) (wrap64 (x23_1 + 1)) l0_0 l0_1 l0_2 l0_3) else (none)) = some (r1,r2):=H
        have A15:=zm A150
        clear A150
        by_cases c16 : x23_1 < (x5_1.length : Int)
        ·rw [if_pos c16] at H
         have c16b0 : decide (x23_1 < (x5_1.length : Int)) = true:=decide_eq_true c16
         have c16b0_h:=c16b0
         (try simp only [hl5_1] at c16b0_h)
         clear c16
         obtain ⟨y321,hy321⟩ : ∃ y_ : List Int,y_ = (x5_1.set (x23_1 : Int).toNat t320):=⟨_,rfl⟩
         replace H : (spec_l2both.l0 k1 y313 y321 (y316.length : Int) (wrap64 (x23_1 + 1)) l0_0 l0_1 l0_2 l0_3) = some (r1,r2):=by first|(rw [hy321];with_reducible exact H)|(have H2_:=(Option.bind_some _ _).symm.trans H;rw [hy321];with_reducible exact H2_)|(have H2_:=(Option.bind_some _ _).symm.trans H;with_reducible exact H2_)|with_reducible exact H|(rw [hy321];exact H)|exact H
         have Ny321:=zm hy321
         clear hy321
         have H':=zm H
         clear H
         have hcz18_0 : wr.cell? ⟨gb312,0,none⟩ = some (.slice A0_0 l0_0.length c0_0):=(zD BK312.out 0).trans rfl
         have hcz18_1 : wr.cell? ⟨gb312,1,none⟩ = some (.slice A0_1 l0_1.length c0_1):=(zD BK312.out 1).trans rfl
         have hcz18_2 : wr.cell? ⟨gb312,2,none⟩ = some (.slice A0_2 l0_2.length c0_2):=(zD BK312.out 2).trans rfl
         have hcz18_3 : wr.cell? ⟨gb312,3,none⟩ = some (.slice A0_3 l0_3.length c0_3):=(zD BK312.out 3).trans rfl
         have hfz18_0:=zE BK312.out 0
         have hfz18_1:=zE BK312.out 1
         have hfz18_2:=zE BK312.out 2
         have hfz18_3:=zE BK312.out 3
         have p319 : 0 ≤ (x23_1 : Int):=of_decide_eq_true (by first|(with_reducible assumption)|assumption)
         have q319 : x23_1 < (l0_3.length : Int):=of_decide_eq_true (by first|(with_reducible assumption)|assumption)
         obtain ⟨ad319,A319_0,c319_0,e319,hx319_0,hl319_0,hi319_0⟩:=at_L3 HR0_3.out x23_1 p319 q319
         cases e319
         replace hx319_0:=(HB.out.cell (World.block_lt_of_cell? w _ hx319_0)).trans hx319_0
         have HR319_0:=zm hi319_0
         have HC319_0:=zm hl319_0
         clear hi319_0 hl319_0
         replace p319:=eq_true p319
         replace q319:=eq_true q319
         go_wp2_with (first|((with_reducible refine gate_callee (f:=25) rfl ?_);refine goesL_ (some 33) rfl rfl Try.func25 (by kernel_rfl) rfl #[.slice A319_0 (rd_L3 l0_3 x23_1).length c319_0,.int .i64 0] rfl (by (try simp only [List.map_toArray,List.map_cons,List.map_nil]);first|done|rfl|(simp only [List.length_drop,List.length_take];rfl)) ?_;(with_reducible refine (spec_l2lamp.calls k1 _ _ (rd_L3 l0_3 x23_1) 0 t320 _ ?side1 ?side2 A15.out).mono ?_);(case side1=>repeat (first|exact (zY HR319_0.out HB.out)|(with_reducible refine zT ?_ _)|(with_reducible refine zU ?_ _)|(with_reducible refine zV ?_)));(case side2=>exact HC319_0.out);rintro e w' ⟨rfl,⟨nd,rfl⟩⟩;refine ⟨_,rfl,?_⟩;(try (rw [drewN_self wr];generalize hq_ : World.drewN wr _ = wr;have n0_ : Aside0 (Kd.R (Kd.int .i64) 3 wr w.heap.size (fun k_=>some k_ ≠ (.slice Ao11 x5_1.length co11 : Value).ownBlock) v314 y313):=⟨by rw [← hq_];exact (by (with_reducible repeat (first|apply zP|apply zQ|apply zR));exact HO_4.out)⟩;have n1_ : Aside0 (Kd.R (Kd.int .i64) 3 wr w.heap.size (fun k_=>some k_ ≠ (v314 : Value).ownBlock) (.slice Ao11 x5_1.length co11) x5_1):=⟨by rw [← hq_];exact (by (with_reducible repeat (first|apply zP|apply zQ|apply zR));exact HO_5.out)⟩;have n2_ : Aside0 (wr.heap[gb312]? = some (.cells #[.slice A0_0 l0_0.length c0_0,.slice A0_1 l0_1.length c0_1,.slice A0_2 l0_2.length c0_2,.slice (some ad319) l0_3.length c0_3] 29 (0,0))):=⟨by rw [← hq_];exact (by (with_reducible repeat (first|refine zH ?_ _|refine zI ?_|refine zG ?_ _));exact BK312.out)⟩;have n3_ : Aside0 (Below w.heap.size w wr):=⟨by rw [← hq_];exact (by repeat (first|(with_reducible first|exact HB.out|apply zA|apply zB|apply zC|refine zF ?_ GE312.out)|exact HB.out))⟩;clear HO_4 HO_5 BK312 HB hq_;have HO_4:=n0_;have HO_5:=n1_;have BK312:=n2_;have HB:=n3_;clear n0_ n1_ n2_ n3_));have p17 : 0 ≤ (x23_1 : Int):=of_decide_eq_true (by first|(with_reducible assumption)|assumption);have q17 : (x23_1 : Int) < ((x5_1.length : Int) : Int):=of_decide_eq_true (by first|(with_reducible assumption)|assumption);obtain ⟨go17,co17,eo17,gb17,gl17,cl17,HG17⟩:=Kd.R_form HO_5.out (by omega);(first|cases eo17|(injection eo17 with ea_ en_ ec_;(first|subst ea_|(injection ea_ with ea_;subst ea_));subst ec_;clear en_));have GB17:=zm gb17;have GG17:=zm HG17;clear gb17 gl17 HG17;obtain ⟨hx17_0,hf17_0⟩:=Kd.R_celln 0 HO_5.out (x23_1 : Int) p17 q17;replace p17:=eq_true p17;replace q17:=eq_true q17;obtain ⟨hy19_,hz19_⟩:=Kd.R_celln 0 HO_5.out (x23_1 : Int) (of_decide_eq_true (by first|(with_reducible assumption)|assumption)) (of_decide_eq_true (by first|(with_reducible assumption)|assumption));have HP19:=Kd.R_putg HO_5.out (x23_1 : Int) t320)|((with_reducible refine gate_store (t:=3) (p:=34) rfl ?_);refine store_event (t:=3) (p:=34) (v:=?vo_w20) (w1:=(wr.setCell ⟨go17,(x23_1 : Int).toNat,none⟩ (.int .i64 t320))) ?hg ?ho ?hn ?hr ?_;(case ho=>rfl);(case hg=>rfl);(case hn=>rfl);(case hr=>first|(go_simp;done)|(go_simp;rfl));intro w20 hw;have hg : wr.grownBy w20 (some go17):=(by rw [hw];exact HP19.2);have hp_ : Kd.R (Kd.int .i64) 3 w20 w.heap.size (fun k_=>some k_ ≠ (v314 : Value).ownBlock) (.slice (some ⟨go17,0,none⟩) x5_1.length co11) y321:=(by rw [hw,Ny321.out];exact HP19.1);clear HP19;have n0_:=zm (Kd.R_after (v:=(.slice (some ⟨go17,0,none⟩) x5_1.length co11)) (v1:=(.slice (some ⟨go17,0,none⟩) x5_1.length co11)) (ok:=(fun _=>True)) (by (with_reducible repeat (first|apply zP|apply zQ|apply zR));exact zS HO_4.out (fun _ hk=>⟨trivial,hk⟩)) hg (.inl rfl));have n1_:=zm (hp_);have n2_:=zm (blk_grown (g:=gb312) (o:=.cells #[.slice A0_0 l0_0.length c0_0,.slice A0_1 l0_1.length c0_1,.slice A0_2 l0_2.length c0_2,.slice (some ad319) l0_3.length c0_3] 29 (0,0)) (by (with_reducible repeat (first|refine zH ?_ _|refine zI ?_|refine zG ?_ _));exact BK312.out) hg (Kd.R_ne HO_5.out BK312.out (by decide)));have n3_:=zm ((by rw [hw];exact zF (HB.out) GB17.out : Below w.heap.size w w20));clear HO_4;clear HO_5;clear BK312;clear HB;have HO_4:=n0_;have HO_5:=n1_;have BK312:=n2_;have HB:=n3_;clear n0_ n1_ n2_ n3_;clear hg hw hp_))
         (try simp only [← hl5_1])
         go_roundg k1
         case measure=>have:=HK1.out;omega
         case rel=>exact ⟨(y321),(wrap64 (x23_1 + 1)),(by first|rfl|(simp;done)|(simp [*];done)),H',⟨by have:=HK1.out;omega⟩,⟨by (try simp only [hl5_1]);(with_reducible repeat (first|apply zP|apply zQ|apply zR));exact zS HO_4.out (fun _ hk=>hk.2)⟩,⟨by (try simp only [hl5_1]);(with_reducible repeat (first|apply zP|apply zQ|apply zR));exact HO_5.out⟩,⟨by (try simp only [hl5_1]);(with_reducible repeat (first|refine zH ?_ _|refine zI ?_|refine zG ?_ _));exact BK312.out⟩,⟨by repeat (first|(with_reducible first|exact HB.out|apply zA|apply zB|apply zC|refine zF ?_ GE312.out)|exact HB.out)⟩⟩
        ·rw [if_neg c16] at H
         exact absurd H (by simp)
       ·rw [if_neg c14] at H
        exact absurd H (by simp)
      ·rw [if_neg c13] at H
       exact absurd H (by simp)
     ·rw [if_neg c12] at H
      have c12b0 : decide (x23_1 < (y316.length : Int)) = false:=decide_eq_false c12
      have c12b0_h:=c12b0
      (try simp only [hl5_1] at c12b0_h)
      clear c12
      have H':=zm H
      clear H
      go_wp2
      go_loopg [4,5] k1 (fun kq v4 v5 w'=>∃ (x4_2 : List Int) (x5_2 : List Int),Aside0 (spec_l2both.l1 kq x4_2 x5_2 l0_0 l0_1 l0_2 l0_3 = some (r1,r2))∧Aside0 (kq ≤ k1)∧Aside0 (Kd.R (Kd.int .i64) 3 w' w.heap.size (fun k_=>some k_ ≠ (v5 : Value).ownBlock) v4 x4_2)∧Aside0 (Kd.R (Kd.int .i64) 3 w' w.heap.size (fun k_=>some k_ ≠ (v4 : Value).ownBlock) v5 x5_2)∧Aside0 (w'.heap[gb312]? = some (.cells #[(.slice A0_0 l0_0.length c0_0),(.slice A0_1 l0_1.length c0_1),(.slice A0_2 l0_2.length c0_2),(.slice A0_3 l0_3.length c0_3)] 29 (0,0)))∧Aside0 (Below w.heap.size w w'))
      case atStart=>exact ⟨(y313),(x5_1),H',⟨Nat.le_refl _⟩,⟨by (try simp only [hl5_1]);(with_reducible repeat (first|apply zP|apply zQ|apply zR));exact HO_4.out⟩,⟨by (try simp only [hl5_1]);(with_reducible repeat (first|apply zP|apply zQ|apply zR));exact HO_5.out⟩,⟨by (try simp only [hl5_1]);(with_reducible repeat (first|refine zH ?_ _|refine zI ?_|refine zG ?_ _));exact BK312.out⟩,⟨by repeat (first|(with_reducible first|exact HB.out|apply zA|apply zB|apply zC|refine zF ?_ GE312.out)|exact HB.out)⟩⟩
      case round =>
       clear H'
       try clear c1
       try clear p1
       try clear q1
       try clear hx1
       try clear hf1
       try clear c2
       try clear c2b0
       try clear c2b1
       try clear p2
       try clear c3
       try clear c3b0
       try clear c3b1
       try clear p3
       try clear q3
       try clear hx3
       try clear p6
       try clear c12
       try clear c12b0
       try clear c13
       try clear c13b0
       try clear c14
       try clear c14b0
       try clear c16
       try clear c16b0
       try clear p17
       try clear q17
       try clear hx17
       try clear hf17
       try clear c19
       try clear hcz18_0
       try clear hcz18_1
       try clear hcz18_2
       try clear hcz18_3
       try clear hcz5_0
       try clear hcz5_1
       try clear hcz5_2
       try clear hcz5_3
       try clear hcz8_0
       try clear hcz8_1
       try clear hcz8_2
       try clear hcz8_3
       try clear hfz18_0
       try clear hfz18_1
       try clear hfz18_2
       try clear hfz18_3
       try clear hfz5_0
       try clear hfz5_1
       try clear hfz5_2
       try clear hfz5_3
       try clear hfz8_0
       try clear hfz8_1
       try clear hfz8_2
       try clear hfz8_3
       try clear hx17_0
       try clear hx319_0
       try clear p17
       try clear p2
       try clear p319
       try clear q17
       try clear q319
       obtain ⟨x4_2,x5_2,HA,HK2,HO_4,HO_5,BK312,HB⟩:=hrel
       cases gk with
       | zero=>exact absurd HA.out (by simp [spec_l2both.l1])
       | succ k2 =>
        have H:=HA.out
        clear HA
        simp only [spec_l2both.l1] at H
        have H':=zm H
        clear H
        obtain ⟨Ao21,co21,eo21⟩:=zAb HO_5.out
        subst eo21
        go_wp2
        go_loopg [7,8,9,38] k2 (fun kq v7 v8 v9 v38 w'=>∃ (x7_3 : List Int) (x8_3 : List Int) (x9_3 : Bool) (x38_3 : Int),v9 = .bool x9_3∧v38 = .int .i64 x38_3∧Aside0 (spec_l2both.l2 kq x4_2 x5_2 x7_3 x8_3 x9_3 (x5_2.length : Int) x38_3 l0_0 l0_1 l0_2 l0_3 = some (r1,r2))∧Aside0 (kq ≤ k2)∧Aside0 (Kd.R (Kd.int .i64) 3 w' w.heap.size (fun k_=>some k_ ≠ ((.slice Ao21 x5_2.length co21) : Value).ownBlock∧some k_ ≠ (v7 : Value).ownBlock∧some k_ ≠ (v8 : Value).ownBlock) u4 x4_2)∧Aside0 (Kd.R (Kd.int .i64) 3 w' w.heap.size (fun k_=>some k_ ≠ (u4 : Value).ownBlock∧some k_ ≠ (v7 : Value).ownBlock∧some k_ ≠ (v8 : Value).ownBlock) (.slice Ao21 x5_2.length co21) x5_2)∧Aside0 (Kd.R (Kd.int .i64) 3 w' w.heap.size (fun k_=>some k_ ≠ (u4 : Value).ownBlock∧some k_ ≠ ((.slice Ao21 x5_2.length co21) : Value).ownBlock∧some k_ ≠ (v8 : Value).ownBlock) v7 x7_3)∧Aside0 (Kd.R (Kd.int .i64) 3 w' w.heap.size (fun k_=>some k_ ≠ (u4 : Value).ownBlock∧some k_ ≠ ((.slice Ao21 x5_2.length co21) : Value).ownBlock∧some k_ ≠ (v7 : Value).ownBlock) v8 x8_3)∧Aside0 (w'.heap[gb312]? = some (.cells #[(.slice A0_0 l0_0.length c0_0),(.slice A0_1 l0_1.length c0_1),(.slice A0_2 l0_2.length c0_2),(.slice A0_3 l0_3.length c0_3)] 29 (0,0)))∧Aside0 (Below w.heap.size w w'))
        case atStart=>exact ⟨(([] : List Int)),(([] : List Int)),(true),(0),(by first|rfl|(simp;done)|(simp [*];done)),(by first|rfl|(simp;done)|(simp [*];done)),H',⟨Nat.le_refl _⟩,⟨by (try simp only [hl5_1]);(with_reducible repeat (first|apply zP|apply zQ|apply zR));exact zS HO_4.out (fun _ hk=>⟨hk,⟨(by simp [Value.ownBlock]),(by simp [Value.ownBlock])⟩⟩)⟩,⟨by (try simp only [hl5_1]);(with_reducible repeat (first|apply zP|apply zQ|apply zR));exact zS HO_5.out (fun _ hk=>⟨hk,⟨(by simp [Value.ownBlock]),(by simp [Value.ownBlock])⟩⟩)⟩,⟨by (try simp only [hl5_1]);first|exact Kd.R_nil _ _ _ _ _|exact Kd.N_nil _ _ _ _ _|exact Kd.V_nil _ _ _ _ _|exact Kd.Q_nil _ _ _ _ _|exact Kd.S_nil _ _ _ _ _⟩,⟨by (try simp only [hl5_1]);first|exact Kd.R_nil _ _ _ _ _|exact Kd.N_nil _ _ _ _ _|exact Kd.V_nil _ _ _ _ _|exact Kd.Q_nil _ _ _ _ _|exact Kd.S_nil _ _ _ _ _⟩,⟨by (try simp only [hl5_1]);(with_reducible repeat (first|refine zH ?_ _|refine zI ?_|refine zG ?_ _));exact BK312.out⟩,⟨by repeat (first|(with_reducible first|exact HB.out|apply zA|apply zB|apply zC|refine zF ?_ GE312.out)|exact HB.out)⟩⟩
        case round =>
         clear H'
         try clear c1
         try clear p1
         try clear q1
         try clear hx1
         try clear hf1
         try clear c2
         try clear c2b0
         try clear c2b1
         try clear p2
         try clear c3
         try clear c3b0
         try clear c3b1
         try clear p3
         try clear q3
         try clear hx3
         try clear p6
         try clear c12
         try clear c12b0
         try clear c13
         try clear c13b0
         try clear c14
         try clear c14b0
         try clear c16
         try clear c16b0
         try clear p17
         try clear q17
         try clear hx17
         try clear hf17
         try clear c19
         try clear hcz18_0
         try clear hcz18_1
         try clear hcz18_2
         try clear hcz18_3
         try clear hcz5_0
         try clear hcz5_1
         try clear hcz5_2
         try clear hcz5_3
         try clear hcz8_0
         try clear hcz8_1
         try clear hcz8_2
         try clear hcz8_3
         try clear hfz18_0
         try clear hfz18_1
         try clear hfz18_2
         try clear hfz18_3
         try clear hfz5_0
         try clear hfz5_1
         try clear hfz5_2
         try clear hfz5_3
         try clear hfz8_0
         try clear hfz8_1
         try clear hfz8_2
         try clear hfz8_3
         try clear hx17_0
         try clear hx319_0
         try clear p1
         try clear p17
         try clear p2
         try clear p3
         try clear p319
         try clear p6
         try clear q1
         try clear q17
         try clear q3
         try clear q319
         obtain ⟨x7_3,x8_3,x9_3,x38_3,rfl,rfl,HA,HK3,HO_4,HO_5,HO_7,HO_8,BK312,HB⟩:=hrel
         cases gk with
         | zero=>exact absurd HA.out (by simp [spec_l2both.l2])
         | succ k3 =>
          have H:=HA.out
          clear HA
          simp only [spec_l2both.l2] at H
          by_cases c22 : x38_3 < (x5_2.length : Int)
          ·rw [if_pos c22] at H
           have c22b0 : decide (x38_3 < (x5_2.length : Int)) = true:=decide_eq_true c22
           have c22b0_h:=c22b0
           (try simp only [hl5_1] at c22b0_h)
           clear c22
           replace H:=Option.bind_eq_some_iff.mp H
           obtain ⟨t322,A230,H⟩:=H
           replace H : (if 0 ≤ x38_3 then (if x38_3 < (l0_3.length : Int) then ((spec_l2lamp.f k3 (rd_L3 l0_3 x38_3) t322).bind fun t324=>(if x9_3 = true then (if x38_3 < (x5_2.length : Int) then (if t324 = (rd x5_2 x38_3) then (if x38_3 < (x4_2.length : Int) then (if x7_3.length < 17592186044416 then (if x8_3.length < 17592186044416 then (spec_l2both.l2 k3 x4_2 x5_2 (x7_3 ++ [t322]) (x8_3 ++ [t324]) (t322 == (rd x4_2 x38_3)) (x5_2.length : Int) (wrap64 (x38_3 + 1)) l0_0 l0_1 l0_2 l0_3) else (none)) else (none)) else (none)) else (if x7_3.length < 17592186044416 then (if x8_3.length < 17592186044416 then (spec_l2both.l2 k3 x4_2 x5_2 (x7_3 ++ [t322]) (x8_3 ++ [t324]) false (x5_2.length : Int) (wrap64 (x38_3 + 1)) l0_0 l0_1 l0_2 l0_3) else (none)) else (none))) else (none)) else (if x7_3.length < 17592186044416 then (if x8_3.length < 17592186044416 then (spec_l2both.l2 k3 x4_2 x5_2 (x7_3 ++ [t322]) (x8_3 ++ [t324]) false (x5_2.length : Int) (wrap64 (x38_3 + 1)) l0_0 l0_1 l0_2 l0_3) else (none)) else (none)))) else (none)) else (none)) = some (r1,r2):=H
           have A23:=zm A230
           clear A230
           by_cases c24 : 0 ≤ x38_3
           ·rw [if_pos c24] at H
            have c24b0 : decide (0 ≤ x38_3) = true:=decide_eq_true c24
            have c24b0_h:=c24b0
            (try simp only [hl5_1] at c24b0_h)
            clear c24
            by_cases c25 : x38_3 < (l0_3.length : Int)
            ·rw [if_pos c25] at H
             have c25b0 : decide (x38_3 < (l0_3.length : Int)) = true:=decide_eq_true c25
             have c25b0_h:=c25b0
             (try simp only [hl5_1] at c25b0_h)
             clear c25
             replace H:=Option.bind_eq_some_iff.mp H
             obtain ⟨t324,A260,H⟩:=H
             replace H : (if x9_3 = true then (if x38_3 < (x5_2.length : Int) then (if t324 = (rd x5_2 x38_3) then (if x38_3 < (x4_2.length : Int) then (if x7_3.length < 17592186044416 then (if x8_3.length < 17592186044416 then (spec_l2both.l2 k3 x4_2 x5_2 (x7_3 ++ [t322]) (x8_3 ++ [t324]) (t322 == (rd x4_2 x38_3)) (x5_2.length : Int) (wrap64 (x38_3 + 1)) l0_0 l0_1 l0_2 l0_3) else (none)) else (none)) else (none)) else (if x7_3.length < 17592186044416 then (if x8_3.length < 17592186044416 then (spec_l2both.l2 k3 x4_2 x5_2 (x7_3 ++ [t322]) (x8_3 ++ [t324]) false (x5_2.length : Int) (wrap64 (x38_3 + 1)) l0_0 l0_1 l0_2 l0_3) else (none)) else (none))) else (none)) else (if x7_3.length < 17592186044416 then (if x8_3.length < 17592186044416 then (spec_l2both.l2 k3 x4_2 x5_2 (x7_3 ++ [t322]) (x8_3 ++ [t324]) false (x5_2.length : Int) (wrap64 (x38_3 + 1)) l0_0 l0_1 l0_2 l0_3) else (none)) else (none))) = some (r1,r2):=H
             have A26:=zm A260
             clear A260
             by_cases c27 : x9_3 = true
             ·subst c27
              have H1 : (if x38_3 < (x5_2.length : Int) then (if t324 = (rd x5_2 x38_3) then (if x38_3 < (x4_2.length : Int) then (if x7_3.length < 17592186044416 then (if x8_3.length < 17592186044416 then (spec_l2both.l2 k3 x4_2 x5_2 (x7_3 ++ [t322]) (x8_3 ++ [t324]) (t322 == (rd x4_2 x38_3)) (x5_2.length : Int) (wrap64 (x38_3 + 1)) l0_0 l0_1 l0_2 l0_3) else (none)) else (none)) else (none)) else (if x7_3.length < 17592186044416 then (if x8_3.length < 17592186044416 then (spec_l2both.l2 k3 x4_2 x5_2 (x7_3 ++ [t322]) (x8_3 ++ [t324]) false (x5_2.length : Int) (wrap64 (x38_3 + 1)) l0_0 l0_1 l0_2 l0_3) else (none)) else (none))) else (none)) = some (r1,r2):=by rw [if_pos rfl] at H;exact H
              clear H
              have H:=H1
              clear H1
              by_cases c28 : x38_3 < (x5_2.length : Int)
              ·rw [if_pos c28] at H
               have c28b0 : decide (x38_3 < (x5_2.length : Int)) = true:=decide_eq_true c28
               have c28b0_h:=c28b0
               (try simp only [hl5_1] at c28b0_h)
               clear c28
               by_cases c29 : t324 = (rd x5_2 x38_3)
               ·rw [if_pos c29] at H
                have c29b0 : (t324 == (rd x5_2 x38_3)) = true:=beq_iff_eq.mpr c29
                have c29b1 : (t324 != (rd x5_2 x38_3)) = false:=bne_eq_false_iff_eq.mpr c29
                clear c29
                by_cases c30 : x38_3 < (x4_2.length : Int)
                ·rw [if_pos c30] at H
                 have c30b0 : decide (x38_3 < (x4_2.length : Int)) = true:=decide_eq_true c30
                 have c30b0_h:=c30b0
                 (try simp only [hl5_1] at c30b0_h)
                 clear c30
                 by_cases c31 : x7_3.length < 17592186044416
                 ·rw [if_pos c31] at H
                  have LMc31:=zm c31
                  clear c31
                  obtain ⟨y327,hy327⟩ : ∃ y_ : List Int,y_ = (x7_3 ++ [t322]):=⟨_,rfl⟩
                  replace H : (if x8_3.length < 17592186044416 then (spec_l2both.l2 k3 x4_2 x5_2 y327 (x8_3 ++ [t324]) (t322 == (rd x4_2 x38_3)) (x5_2.length : Int) (wrap64 (x38_3 + 1)) l0_0 l0_1 l0_2 l0_3) else (none)) = some (r1,r2):=by first|(rw [hy327];with_reducible exact H)|(have H2_:=(Option.bind_some _ _).symm.trans H;rw [hy327];with_reducible exact H2_)|(have H2_:=(Option.bind_some _ _).symm.trans H;with_reducible exact H2_)|with_reducible exact H|(rw [hy327];exact H)|exact H
                  have Ny327:=zm hy327
                  clear hy327
                  by_cases c32 : x8_3.length < 17592186044416
                  ·rw [if_pos c32] at H
                   have LMc32:=zm c32
                   clear c32
                   obtain ⟨y330,hy330⟩ : ∃ y_ : List Int,y_ = (x8_3 ++ [t324]):=⟨_,rfl⟩
                   replace H : (spec_l2both.l2 k3 x4_2 x5_2 y327 y330 (t322 == (rd x4_2 x38_3)) (x5_2.length : Int) (wrap64 (x38_3 + 1)) l0_0 l0_1 l0_2 l0_3) = some (r1,r2):=by first|(rw [hy330];with_reducible exact H)|(have H2_:=(Option.bind_some _ _).symm.trans H;rw [hy330];with_reducible exact H2_)|(have H2_:=(Option.bind_some _ _).symm.trans H;with_reducible exact H2_)|with_reducible exact H|(rw [hy330];exact H)|exact H
                   have Ny330:=zm hy330
                   clear hy330
                   have H':=zm H
                   clear H
                   have hcz33_0 : wr.cell? ⟨gb312,0,none⟩ = some (.slice A0_0 l0_0.length c0_0):=(zD BK312.out 0).trans rfl
                   have hcz33_1 : wr.cell? ⟨gb312,1,none⟩ = some (.slice A0_1 l0_1.length c0_1):=(zD BK312.out 1).trans rfl
                   have hcz33_2 : wr.cell? ⟨gb312,2,none⟩ = some (.slice A0_2 l0_2.length c0_2):=(zD BK312.out 2).trans rfl
                   have hcz33_3 : wr.cell? ⟨gb312,3,none⟩ = some (.slice A0_3 l0_3.length c0_3):=(zD BK312.out 3).trans rfl
                   have hfz33_0:=zE BK312.out 0
                   have hfz33_1:=zE BK312.out 1
                   have hfz33_2:=zE BK312.out 2
                   have hfz33_3:=zE BK312.out 3
                   go_wp2_with (first|((with_reducible refine gate_callee (f:=26) rfl ?_);refine goesL_ (some 44) rfl rfl Try.func26 (by kernel_rfl) rfl #[.agg #[.slice A0_0 l0_0.length c0_0,.slice A0_1 l0_1.length c0_1,.slice A0_2 l0_2.length c0_2,.slice A0_3 l0_3.length c0_3],.slice Ao21 x5_2.length co21,.int .i64 x38_3] rfl (by (try simp only [List.map_toArray,List.map_cons,List.map_nil]);first|done|rfl|(simp only [List.length_drop,List.length_take];rfl)) ?_;(with_reducible refine (spec_l2want.calls _ _ l0_0 _ _ l0_1 _ _ l0_2 _ _ l0_3 _ _ x5_2 x38_3 t322 _ ?side1 ?side2 ?side3 ?side4 ?side5 ?side6 ?side7 ?side8 ?side9 ?side10 A23.out).mono ?_);(case side1=>repeat (first|exact (zY HR0_0.out HB.out)|(with_reducible refine zT ?_ _)|(with_reducible refine zU ?_ _)|(with_reducible refine zV ?_)));(case side2=>exact HC0_0.out);(case side3=>repeat (first|exact (zY HR0_1.out HB.out)|(with_reducible refine zT ?_ _)|(with_reducible refine zU ?_ _)|(with_reducible refine zV ?_)));(case side4=>exact HC0_1.out);(case side5=>repeat (first|exact (zY HR0_2.out HB.out)|(with_reducible refine zT ?_ _)|(with_reducible refine zU ?_ _)|(with_reducible refine zV ?_)));(case side6=>exact HC0_2.out);(case side7=>repeat (first|exact (zY HR0_3.out HB.out)|(with_reducible refine zT ?_ _)|(with_reducible refine zU ?_ _)|(with_reducible refine zV ?_)));(case side8=>exact HC0_3.out);(case side9=>repeat (first|exact (zW HO_5.out).2.2|(with_reducible refine zT ?_ _)|(with_reducible refine zU ?_ _)|(with_reducible refine zV ?_)));(case side10=>exact (zW HO_5.out).2.1);rintro e w34 ⟨rfl,hb⟩;refine ⟨_,rfl,?_⟩;have n0_:=zm (zHb (by (with_reducible repeat (first|apply zP|apply zQ|apply zR));exact HO_4.out) hb);have n1_:=zm (zHb (by (with_reducible repeat (first|apply zP|apply zQ|apply zR));exact HO_5.out) hb);have n2_:=zm (zHb (by (with_reducible repeat (first|apply zP|apply zQ|apply zR));exact HO_7.out) hb);have n3_:=zm (zHb (by (with_reducible repeat (first|apply zP|apply zQ|apply zR));exact HO_8.out) hb);have n4_:=zm (zL (g:=gb312) (o:=.cells #[.slice A0_0 l0_0.length c0_0,.slice A0_1 l0_1.length c0_1,.slice A0_2 l0_2.length c0_2,.slice A0_3 l0_3.length c0_3] 29 (0,0)) (by (with_reducible repeat (first|refine zH ?_ _|refine zI ?_|refine zG ?_ _));exact BK312.out) hb);have n5_:=zm (zK (by repeat (first|(with_reducible first|exact HB.out|apply zA|apply zB|apply zC|refine zF ?_ GE312.out)|exact HB.out)) hb);clear HO_4;clear HO_5;clear HO_7;clear HO_8;clear BK312;clear HB;have HO_4:=n0_;have HO_5:=n1_;have HO_7:=n2_;have HO_8:=n3_;have BK312:=n4_;have HB:=n5_;clear n0_ n1_ n2_ n3_ n4_ n5_;(try clear hb);(try clear hb2);(try clear hk);(try clear hi);have hcz35_0 : w34.cell? ⟨gb312,0,none⟩ = some (.slice A0_0 l0_0.length c0_0):=(zD BK312.out 0).trans rfl;have hcz35_1 : w34.cell? ⟨gb312,1,none⟩ = some (.slice A0_1 l0_1.length c0_1):=(zD BK312.out 1).trans rfl;have hcz35_2 : w34.cell? ⟨gb312,2,none⟩ = some (.slice A0_2 l0_2.length c0_2):=(zD BK312.out 2).trans rfl;have hcz35_3 : w34.cell? ⟨gb312,3,none⟩ = some (.slice A0_3 l0_3.length c0_3):=(zD BK312.out 3).trans rfl;have hfz35_0:=zE BK312.out 0;have hfz35_1:=zE BK312.out 1;have hfz35_2:=zE BK312.out 2;have hfz35_3:=zE BK312.out 3;have p323 : 0 ≤ (x38_3 : Int):=of_decide_eq_true (by first|(with_reducible assumption)|assumption);have q323 : x38_3 < (l0_3.length : Int):=of_decide_eq_true (by first|(with_reducible assumption)|assumption);obtain ⟨ad323,A323_0,c323_0,e323,hx323_0,hl323_0,hi323_0⟩:=at_L3 HR0_3.out x38_3 p323 q323;cases e323;replace hx323_0:=(HB.out.cell (World.block_lt_of_cell? w _ hx323_0)).trans hx323_0;have HR323_0:=zm hi323_0;have HC323_0:=zm hl323_0;clear hi323_0 hl323_0;replace p323:=eq_true p323;replace q323:=eq_true q323)|((with_reducible refine gate_callee (f:=25) rfl ?_);refine goesL_ (some 51) rfl rfl Try.func25 (by kernel_rfl) rfl #[.slice A323_0 (rd_L3 l0_3 x38_3).length c323_0,.int .i64 t322] rfl (by (try simp only [List.map_toArray,List.map_cons,List.map_nil]);first|done|rfl|(simp only [List.length_drop,List.length_take];rfl)) ?_;(with_reducible refine (spec_l2lamp.calls k3 _ _ (rd_L3 l0_3 x38_3) t322 t324 _ ?side1 ?side2 A26.out).mono ?_);(case side1=>repeat (first|exact (zY HR323_0.out HB.out)|(with_reducible refine zT ?_ _)|(with_reducible refine zU ?_ _)|(with_reducible refine zV ?_)));(case side2=>exact HC323_0.out);rintro e w' ⟨rfl,⟨nd,rfl⟩⟩;refine ⟨_,rfl,?_⟩;have p325 : 0 ≤ (x38_3 : Int):=of_decide_eq_true (by first|(with_reducible assumption)|assumption);have q325 : x38_3 < (x5_2.length : Int):=of_decide_eq_true (by first|(with_reducible assumption)|assumption);obtain ⟨ad325,e325,hx325_0⟩:=Kd.at_int (zW HO_5.out).2.2 x38_3 p325 q325;cases e325;replace p325:=eq_true p325;replace q325:=eq_true q325;obtain ⟨Ao36,co36,eo36⟩:=zAb HO_4.out;subst eo36;have p326 : 0 ≤ (x38_3 : Int):=of_decide_eq_true (by first|(with_reducible assumption)|assumption);have q326 : x38_3 < (x4_2.length : Int):=of_decide_eq_true (by first|(with_reducible assumption)|assumption);obtain ⟨ad326,e326,hx326_0⟩:=Kd.at_int (zW HO_4.out).2.2 x38_3 p326 q326;cases e326;replace p326:=eq_true p326;replace q326:=eq_true q326)|((with_reducible refine gate_builtin (b:=.append) (xs:=#[.tmp 69,.tmp 71]) rfl ?_);at_builtin;refine Kd.R_append (Kd.int .i64) (w0:=w) w.heap.size rfl (.tmp 69) (.tmp 71) 25 3 (.int .i64 0) 8 rfl Try.underlying25 info3 rfl (by decide) (by omega) u7 x7_3 t322 [.int .i64 t322] (fun k_=>some k_ ≠ (.slice (some ad326) x4_2.length co36 : Value).ownBlock∧some k_ ≠ (.slice (some ad325) x5_2.length co21 : Value).ownBlock∧some k_ ≠ (u8 : Value).ownBlock) (fun _=>False) rfl rfl ?aP (fun _ hk=>hk.elim) ?aF ?aO ?aB ?aS ?aL ?_;(case aP=>exact rfl);(case aB=>exact (by repeat (first|(with_reducible first|exact HB.out|apply zA|apply zB|apply zC|refine zF ?_ GE312.out)|exact HB.out)));(case aF=>exact (fun k_ hk=>⟨Kd.fresh' (Kd.R_lt (by (with_reducible repeat (first|apply zP|apply zQ|apply zR));exact HO_4.out)) k_ hk,Kd.fresh' (Kd.R_lt (by (with_reducible repeat (first|apply zP|apply zQ|apply zR));exact HO_5.out)) k_ hk,Kd.fresh' (Kd.R_lt (by (with_reducible repeat (first|apply zP|apply zQ|apply zR));exact HO_8.out)) k_ hk⟩));(case aO=>exact (by (with_reducible repeat (first|apply zP|apply zQ|apply zR));exact HO_7.out));(case aS=>exact (zJ (by repeat (first|(with_reducible first|exact HB.out|apply zA|apply zB|apply zC|refine zF ?_ GE312.out)|exact HB.out))));(case aL=>have:=LMc31.out;omega);intro v328 w37 ho hb hg hat;rw [← Ny327.out] at ho;have n0_:=zm (Kd.R_after (ok:=(fun k_=>some k_ ≠ (.slice (some ad325) x5_2.length co21 : Value).ownBlock∧some k_ ≠ (u8 : Value).ownBlock)) (by (with_reducible repeat (first|apply zP|apply zQ|apply zR));exact zS HO_4.out (fun _ hk=>⟨⟨hk.1,hk.2.2⟩,hk.2.1⟩)) hg hat);have n1_:=zm (Kd.R_after (ok:=(fun k_=>some k_ ≠ (.slice (some ad326) x4_2.length co36 : Value).ownBlock∧some k_ ≠ (u8 : Value).ownBlock)) (by (with_reducible repeat (first|apply zP|apply zQ|apply zR));exact zS HO_5.out (fun _ hk=>⟨⟨hk.1,hk.2.2⟩,hk.2.1⟩)) hg hat);have n2_:=zm (Kd.R_after (ok:=(fun k_=>some k_ ≠ (.slice (some ad326) x4_2.length co36 : Value).ownBlock∧some k_ ≠ (.slice (some ad325) x5_2.length co21 : Value).ownBlock)) (by (with_reducible repeat (first|apply zP|apply zQ|apply zR));exact zS HO_8.out (fun _ hk=>⟨⟨hk.1,hk.2.1⟩,hk.2.2⟩)) hg hat);have n3_:=zm (blk_grown (g:=gb312) (o:=.cells #[.slice A0_0 l0_0.length c0_0,.slice A0_1 l0_1.length c0_1,.slice A0_2 l0_2.length c0_2,.slice (some ad323) l0_3.length c0_3] 29 (0,0)) (by (with_reducible repeat (first|refine zH ?_ _|refine zI ?_|refine zG ?_ _));exact BK312.out) hg (Kd.R_ne HO_7.out BK312.out (by decide)));have n4_:=zm (hb);have n5_:=zm (ho);clear HO_4;clear HO_5;clear HO_8;clear BK312;clear HB;clear HO_7;have HO_4:=n0_;have HO_5:=n1_;have HO_8:=n2_;have BK312:=n3_;have HB:=n4_;have HO329:=n5_;clear n0_ n1_ n2_ n3_ n4_ n5_;clear ho hb hg hat)|((with_reducible refine gate_builtin (b:=.append) (xs:=#[.tmp 73,.tmp 75]) rfl ?_);at_builtin;refine Kd.R_append (Kd.int .i64) (w0:=w) w.heap.size rfl (.tmp 73) (.tmp 75) 25 3 (.int .i64 0) 8 rfl Try.underlying25 info3 rfl (by decide) (by omega) u8 x8_3 t324 [.int .i64 t324] (fun k_=>some k_ ≠ (.slice (some ad326) x4_2.length co36 : Value).ownBlock∧some k_ ≠ (.slice (some ad325) x5_2.length co21 : Value).ownBlock∧some k_ ≠ (v328 : Value).ownBlock) (fun _=>False) rfl rfl ?aP (fun _ hk=>hk.elim) ?aF ?aO ?aB ?aS ?aL ?_;(case aP=>exact rfl);(case aB=>exact (by repeat (first|(with_reducible first|exact HB.out|apply zA|apply zB|apply zC|refine zF ?_ GE312.out)|exact HB.out)));(case aF=>exact (fun k_ hk=>⟨Kd.fresh' (Kd.R_lt (by (with_reducible repeat (first|apply zP|apply zQ|apply zR));exact HO_4.out)) k_ hk,Kd.fresh' (Kd.R_lt (by (with_reducible repeat (first|apply zP|apply zQ|apply zR));exact HO_5.out)) k_ hk,Kd.fresh' (Kd.R_lt (by (with_reducible repeat (first|apply zP|apply zQ|apply zR));exact HO329.out)) k_ hk⟩));(case aO=>exact (by (with_reducible repeat (first|apply zP|apply zQ|apply zR));exact zS HO_8.out (fun _ hk=>⟨hk.1.1,⟨hk.1.2,hk.2⟩⟩)));(case aS=>exact (zJ (by repeat (first|(with_reducible first|exact HB.out|apply zA|apply zB|apply zC|refine zF ?_ GE312.out)|exact HB.out))));(case aL=>have:=LMc32.out;omega);intro v331 w38 ho hb hg hat;rw [← Ny330.out] at ho;have n0_:=zm (Kd.R_after (ok:=(fun k_=>some k_ ≠ (.slice (some ad325) x5_2.length co21 : Value).ownBlock∧some k_ ≠ (v328 : Value).ownBlock)) (by (with_reducible repeat (first|apply zP|apply zQ|apply zR));exact zS HO_4.out (fun _ hk=>⟨⟨hk.1.1,hk.2⟩,hk.1.2⟩)) hg hat);have n1_:=zm (Kd.R_after (ok:=(fun k_=>some k_ ≠ (.slice (some ad326) x4_2.length co36 : Value).ownBlock∧some k_ ≠ (v328 : Value).ownBlock)) (by (with_reducible repeat (first|apply zP|apply zQ|apply zR));exact zS HO_5.out (fun _ hk=>⟨⟨hk.1.1,hk.2⟩,hk.1.2⟩)) hg hat);have n2_:=zm (blk_grown (g:=gb312) (o:=.cells #[.slice A0_0 l0_0.length c0_0,.slice A0_1 l0_1.length c0_1,.slice A0_2 l0_2.length c0_2,.slice (some ad323) l0_3.length c0_3] 29 (0,0)) (by (with_reducible repeat (first|refine zH ?_ _|refine zI ?_|refine zG ?_ _));exact BK312.out) hg (Kd.R_ne HO_8.out BK312.out (by decide)));have n3_:=zm (Kd.R_after (ok:=(fun k_=>some k_ ≠ (.slice (some ad326) x4_2.length co36 : Value).ownBlock∧some k_ ≠ (.slice (some ad325) x5_2.length co21 : Value).ownBlock)) (by (with_reducible repeat (first|apply zP|apply zQ|apply zR));exact zS HO329.out (fun _ hk=>⟨⟨hk.1,hk.2.1⟩,hk.2.2⟩)) hg hat);have n4_:=zm (hb);have n5_:=zm (ho);clear HO_4;clear HO_5;clear BK312;clear HO329;clear HB;clear HO_8;have HO_4:=n0_;have HO_5:=n1_;have BK312:=n2_;have HO329:=n3_;have HB:=n4_;have HO332:=n5_;clear n0_ n1_ n2_ n3_ n4_ n5_;clear ho hb hg hat))
                   go_roundg k3
                   case measure=>have:=HK1.out;have:=HK2.out;have:=HK3.out;omega
                   case rel=>exact ⟨(y327),(y330),((t322 == (rd x4_2 x38_3))),(wrap64 (x38_3 + 1)),(by first|rfl|(simp;done)|(simp [*];done)),(by first|rfl|(simp;done)|(simp [*];done)),H',⟨by have:=HK1.out;have:=HK2.out;have:=HK3.out;omega⟩,⟨by (try simp only [hl5_1]);(with_reducible repeat (first|apply zP|apply zQ|apply zR));exact zS HO_4.out (fun _ hk=>⟨hk.1.1,⟨hk.1.2,hk.2⟩⟩)⟩,⟨by (try simp only [hl5_1]);(with_reducible repeat (first|apply zP|apply zQ|apply zR));exact zS HO_5.out (fun _ hk=>⟨hk.1.1,⟨hk.1.2,hk.2⟩⟩)⟩,⟨by (try simp only [hl5_1]);(with_reducible repeat (first|apply zP|apply zQ|apply zR));exact zS HO329.out (fun _ hk=>⟨hk.1.1,⟨hk.1.2,hk.2⟩⟩)⟩,⟨by (try simp only [hl5_1]);(with_reducible repeat (first|apply zP|apply zQ|apply zR));exact HO332.out⟩,⟨by (try simp only [hl5_1]);(with_reducible repeat (first|refine zH ?_ _|refine zI ?_|refine zG ?_ _));exact BK312.out⟩,⟨by repeat (first|(with_reducible first|exact HB.out|apply zA|apply zB|apply zC|refine zF ?_ GE312.out)|exact HB.out)⟩⟩
                  ·rw [if_neg c32] at H
                   exact absurd H (by simp)
                 ·rw [if_neg c31] at H
                  exact absurd H (by simp)
                ·rw [if_neg c30] at H
                 exact absurd H (by simp)
               ·rw [if_neg c29] at H
                have c29b0 : (t324 == (rd x5_2 x38_3)) = false:=beq_eq_false_iff_ne.mpr c29
                have c29b1 : (t324 != (rd x5_2 x38_3)) = true:=bne_iff_ne.mpr c29
                by_cases c39 : x7_3.length < 17592186044416
                ·rw [if_pos c39] at H
                 have LMc39:=zm c39
                 clear c39
                 obtain ⟨y333,hy333⟩ : ∃ y_ : List Int,y_ = (x7_3 ++ [t322]):=⟨_,rfl⟩
                 replace H : (if x8_3.length < 17592186044416 then (spec_l2both.l2 k3 x4_2 x5_2 y333 (x8_3 ++ [t324]) false (x5_2.length : Int) (wrap64 (x38_3 + 1)) l0_0 l0_1 l0_2 l0_3) else (none)) = some (r1,r2):=by first|(rw [hy333];with_reducible exact H)|(have H2_:=(Option.bind_some _ _).symm.trans H;rw [hy333];with_reducible exact H2_)|(have H2_:=(Option.bind_some _ _).symm.trans H;with_reducible exact H2_)|with_reducible exact H|(rw [hy333];exact H)|exact H
                 have Ny333:=zm hy333
                 clear hy333
                 by_cases c40 : x8_3.length < 17592186044416
                 ·rw [if_pos c40] at H
                  have LMc40:=zm c40
                  clear c40
                  obtain ⟨y336,hy336⟩ : ∃ y_ : List Int,y_ = (x8_3 ++ [t324]):=⟨_,rfl⟩
                  replace H : (spec_l2both.l2 k3 x4_2 x5_2 y333 y336 false (x5_2.length : Int) (wrap64 (x38_3 + 1)) l0_0 l0_1 l0_2 l0_3) = some (r1,r2):=by first|(rw [hy336];with_reducible exact H)|(have H2_:=(Option.bind_some _ _).symm.trans H;rw [hy336];with_reducible exact H2_)|(have H2_:=(Option.bind_some _ _).symm.trans H;with_reducible exact H2_)|with_reducible exact H|(rw [hy336];exact H)|exact H
                  have Ny336:=zm hy336
                  clear hy336
                  have H':=zm H
                  clear H
                  have hcz41_0 : wr.cell? ⟨gb312,0,none⟩ = some (.slice A0_0 l0_0.length c0_0):=(zD BK312.out 0).trans rfl
                  have hcz41_1 : wr.cell? ⟨gb312,1,none⟩ = some (.slice A0_1 l0_1.length c0_1):=(zD BK312.out 1).trans rfl
                  have hcz41_2 : wr.cell? ⟨gb312,2,none⟩ = some (.slice A0_2 l0_2.length c0_2):=(zD BK312.out 2).trans rfl
                  have hcz41_3 : wr.cell? ⟨gb312,3,none⟩ = some (.slice A0_3 l0_3.length c0_3):=(zD BK312.out 3).trans rfl
                  have hfz41_0:=zE BK312.out 0
                  have hfz41_1:=zE BK312.out 1
                  have hfz41_2:=zE BK312.out 2
                  have hfz41_3:=zE BK312.out 3
                  go_wp2_with (first|((with_reducible refine gate_callee (f:=26) rfl ?_);refine goesL_ (some 44) rfl rfl Try.func26 (by kernel_rfl) rfl #[.agg #[.slice A0_0 l0_0.length c0_0,.slice A0_1 l0_1.length c0_1,.slice A0_2 l0_2.length c0_2,.slice A0_3 l0_3.length c0_3],.slice Ao21 x5_2.length co21,.int .i64 x38_3] rfl (by (try simp only [List.map_toArray,List.map_cons,List.map_nil]);first|done|rfl|(simp only [List.length_drop,List.length_take];rfl)) ?_;(with_reducible refine (spec_l2want.calls _ _ l0_0 _ _ l0_1 _ _ l0_2 _ _ l0_3 _ _ x5_2 x38_3 t322 _ ?side1 ?side2 ?side3 ?side4 ?side5 ?side6 ?side7 ?side8 ?side9 ?side10 A23.out).mono ?_);(case side1=>repeat (first|exact (zY HR0_0.out HB.out)|(with_reducible refine zT ?_ _)|(with_reducible refine zU ?_ _)|(with_reducible refine zV ?_)));(case side2=>exact HC0_0.out);(case side3=>repeat (first|exact (zY HR0_1.out HB.out)|(with_reducible refine zT ?_ _)|(with_reducible refine zU ?_ _)|(with_reducible refine zV ?_)));(case side4=>exact HC0_1.out);(case side5=>repeat (first|exact (zY HR0_2.out HB.out)|(with_reducible refine zT ?_ _)|(with_reducible refine zU ?_ _)|(with_reducible refine zV ?_)));(case side6=>exact HC0_2.out);(case side7=>repeat (first|exact (zY HR0_3.out HB.out)|(with_reducible refine zT ?_ _)|(with_reducible refine zU ?_ _)|(with_reducible refine zV ?_)));(case side8=>exact HC0_3.out);(case side9=>repeat (first|exact (zW HO_5.out).2.2|(with_reducible refine zT ?_ _)|(with_reducible refine zU ?_ _)|(with_reducible refine zV ?_)));(case side10=>exact (zW HO_5.out).2.1);rintro e w42 ⟨rfl,hb⟩;refine ⟨_,rfl,?_⟩;have n0_:=zm (zHb (by (with_reducible repeat (first|apply zP|apply zQ|apply zR));exact HO_4.out) hb);have n1_:=zm (zHb (by (with_reducible repeat (first|apply zP|apply zQ|apply zR));exact HO_5.out) hb);have n2_:=zm (zHb (by (with_reducible repeat (first|apply zP|apply zQ|apply zR));exact HO_7.out) hb);have n3_:=zm (zHb (by (with_reducible repeat (first|apply zP|apply zQ|apply zR));exact HO_8.out) hb);have n4_:=zm (zL (g:=gb312) (o:=.cells #[.slice A0_0 l0_0.length c0_0,.slice A0_1 l0_1.length c0_1,.slice A0_2 l0_2.length c0_2,.slice A0_3 l0_3.length c0_3] 29 (0,0)) (by (with_reducible repeat (first|refine zH ?_ _|refine zI ?_|refine zG ?_ _));exact BK312.out) hb);have n5_:=zm (zK (by repeat (first|(with_reducible first|exact HB.out|apply zA|apply zB|apply zC|refine zF ?_ GE312.out)|exact HB.out)) hb);clear HO_4;clear HO_5;clear HO_7;clear HO_8;clear BK312;clear HB;have HO_4:=n0_;have HO_5:=n1_;have HO_7:=n2_;have HO_8:=n3_;have BK312:=n4_;have HB:=n5_;clear n0_ n1_ n2_ n3_ n4_ n5_;(try clear hb);(try clear hb2);(try clear hk);(try clear hi);have hcz43_0 : w42.cell? ⟨gb312,0,none⟩ = some (.slice A0_0 l0_0.length c0_0):=(zD BK312.out 0).trans rfl;have hcz43_1 : w42.cell? ⟨gb312,1,none⟩ = some (.slice A0_1 l0_1.length c0_1):=(zD BK312.out 1).trans rfl;have hcz43_2 : w42.cell? ⟨gb312,2,none⟩ = some (.slice A0_2 l0_2.length c0_2):=(zD BK312.out 2).trans rfl;have hcz43_3 : w42.cell? ⟨gb312,3,none⟩ = some (.slice A0_3 l0_3.length c0_3):=(zD BK312.out 3).trans rfl;have hfz43_0:=zE BK312.out 0;have hfz43_1:=zE BK312.out 1;have hfz43_2:=zE BK312.out 2;have hfz43_3:=zE BK312.out 3;have p323 : 0 ≤ (x38_3 : Int):=of_decide_eq_true (by first|(with_reducible assumption)|assumption);have q323 : x38_3 < (l0_3.length : Int):=of_decide_eq_true (by first|(with_reducible assumption)|assumption);obtain ⟨ad323,A323_0,c323_0,e323,hx323_0,hl323_0,hi323_0⟩:=at_L3 HR0_3.out x38_3 p323 q323;cases e323;replace hx323_0:=(HB.out.cell (World.block_lt_of_cell? w _ hx323_0)).trans hx323_0;have HR323_0:=zm hi323_0;have HC323_0:=zm hl323_0;clear hi323_0 hl323_0;replace p323:=eq_true p323;replace q323:=eq_true q323)|((with_reducible refine gate_callee (f:=25) rfl ?_);refine goesL_ (some 51) rfl rfl Try.func25 (by kernel_rfl) rfl #[.slice A323_0 (rd_L3 l0_3 x38_3).length c323_0,.int .i64 t322] rfl (by (try simp only [List.map_toArray,List.map_cons,List.map_nil]);first|done|rfl|(simp only [List.length_drop,List.length_take];rfl)) ?_;(with_reducible refine (spec_l2lamp.calls k3 _ _ (rd_L3 l0_3 x38_3) t322 t324 _ ?side1 ?side2 A26.out).mono ?_);(case side1=>repeat (first|exact (zY HR323_0.out HB.out)|(with_reducible refine zT ?_ _)|(with_reducible refine zU ?_ _)|(with_reducible refine zV ?_)));(case side2=>exact HC323_0.out);rintro e w' ⟨rfl,⟨nd,rfl⟩⟩;refine ⟨_,rfl,?_⟩;have p325 : 0 ≤ (x38_3 : Int):=of_decide_eq_true (by first|(with_reducible assumption)|assumption);have q325 : x38_3 < (x5_2.length : Int):=of_decide_eq_true (by first|(with_reducible assumption)|assumption);obtain ⟨ad325,e325,hx325_0⟩:=Kd.at_int (zW HO_5.out).2.2 x38_3 p325 q325;cases e325;replace p325:=eq_true p325;replace q325:=eq_true q325)|((with_reducible refine gate_builtin (b:=.append) (xs:=#[.tmp 69,.tmp 71]) rfl ?_);at_builtin;refine Kd.R_append (Kd.int .i64) (w0:=w) w.heap.size rfl (.tmp 69) (.tmp 71) 25 3 (.int .i64 0) 8 rfl Try.underlying25 info3 rfl (by decide) (by omega) u7 x7_3 t322 [.int .i64 t322] (fun k_=>some k_ ≠ (u4 : Value).ownBlock∧some k_ ≠ (.slice (some ad325) x5_2.length co21 : Value).ownBlock∧some k_ ≠ (u8 : Value).ownBlock) (fun _=>False) rfl rfl ?aP (fun _ hk=>hk.elim) ?aF ?aO ?aB ?aS ?aL ?_;(case aP=>exact rfl);(case aB=>exact (by repeat (first|(with_reducible first|exact HB.out|apply zA|apply zB|apply zC|refine zF ?_ GE312.out)|exact HB.out)));(case aF=>exact (fun k_ hk=>⟨Kd.fresh' (Kd.R_lt (by (with_reducible repeat (first|apply zP|apply zQ|apply zR));exact HO_4.out)) k_ hk,Kd.fresh' (Kd.R_lt (by (with_reducible repeat (first|apply zP|apply zQ|apply zR));exact HO_5.out)) k_ hk,Kd.fresh' (Kd.R_lt (by (with_reducible repeat (first|apply zP|apply zQ|apply zR));exact HO_8.out)) k_ hk⟩));(case aO=>exact (by (with_reducible repeat (first|apply zP|apply zQ|apply zR));exact HO_7.out));(case aS=>exact (zJ (by repeat (first|(with_reducible first|exact HB.out|apply zA|apply zB|apply zC|refine zF ?_ GE312.out)|exact HB.out))));(case aL=>have:=LMc39.out;omega);intro v334 w44 ho hb hg hat;rw [← Ny333.out] at ho;have n0_:=zm (Kd.R_after (ok:=(fun k_=>some k_ ≠ (.slice (some ad325) x5_2.length co21 : Value).ownBlock∧some k_ ≠ (u8 : Value).ownBlock)) (by (with_reducible repeat (first|apply zP|apply zQ|apply zR));exact zS HO_4.out (fun _ hk=>⟨⟨hk.1,hk.2.2⟩,hk.2.1⟩)) hg hat);have n1_:=zm (Kd.R_after (ok:=(fun k_=>some k_ ≠ (u4 : Value).ownBlock∧some k_ ≠ (u8 : Value).ownBlock)) (by (with_reducible repeat (first|apply zP|apply zQ|apply zR));exact zS HO_5.out (fun _ hk=>⟨⟨hk.1,hk.2.2⟩,hk.2.1⟩)) hg hat);have n2_:=zm (Kd.R_after (ok:=(fun k_=>some k_ ≠ (u4 : Value).ownBlock∧some k_ ≠ (.slice (some ad325) x5_2.length co21 : Value).ownBlock)) (by (with_reducible repeat (first|apply zP|apply zQ|apply zR));exact zS HO_8.out (fun _ hk=>⟨⟨hk.1,hk.2.1⟩,hk.2.2⟩)) hg hat);have n3_:=zm (blk_grown (g:=gb312) (o:=.cells #[.slice A0_0 l0_0.length c0_0,.slice A0_1 l0_1.length c0_1,.slice A0_2 l0_2.length c0_2,.slice (some ad323) l0_3.length c0_3] 29 (0,0)) (by (with_reducible repeat (first|refine zH ?_ _|refine zI ?_|refine zG ?_ _));exact BK312.out) hg (Kd.R_ne HO_7.out BK312.out (by decide)));have n4_:=zm (hb);have n5_:=zm (ho);clear HO_4;clear HO_5;clear HO_8;clear BK312;clear HB;clear HO_7;have HO_4:=n0_;have HO_5:=n1_;have HO_8:=n2_;have BK312:=n3_;have HB:=n4_;have HO335:=n5_;clear n0_ n1_ n2_ n3_ n4_ n5_;clear ho hb hg hat)|((with_reducible refine gate_builtin (b:=.append) (xs:=#[.tmp 73,.tmp 75]) rfl ?_);at_builtin;refine Kd.R_append (Kd.int .i64) (w0:=w) w.heap.size rfl (.tmp 73) (.tmp 75) 25 3 (.int .i64 0) 8 rfl Try.underlying25 info3 rfl (by decide) (by omega) u8 x8_3 t324 [.int .i64 t324] (fun k_=>some k_ ≠ (u4 : Value).ownBlock∧some k_ ≠ (.slice (some ad325) x5_2.length co21 : Value).ownBlock∧some k_ ≠ (v334 : Value).ownBlock) (fun _=>False) rfl rfl ?aP (fun _ hk=>hk.elim) ?aF ?aO ?aB ?aS ?aL ?_;(case aP=>exact rfl);(case aB=>exact (by repeat (first|(with_reducible first|exact HB.out|apply zA|apply zB|apply zC|refine zF ?_ GE312.out)|exact HB.out)));(case aF=>exact (fun k_ hk=>⟨Kd.fresh' (Kd.R_lt (by (with_reducible repeat (first|apply zP|apply zQ|apply zR));exact HO_4.out)) k_ hk,Kd.fresh' (Kd.R_lt (by (with_reducible repeat (first|apply zP|apply zQ|apply zR));exact HO_5.out)) k_ hk,Kd.fresh' (Kd.R_lt (by (with_reducible repeat (first|apply zP|apply zQ|apply zR));exact HO335.out)) k_ hk⟩));(case aO=>exact (by (with_reducible repeat (first|apply zP|apply zQ|apply zR));exact zS HO_8.out (fun _ hk=>⟨hk.1.1,⟨hk.1.2,hk.2⟩⟩)));(case aS=>exact (zJ (by repeat (first|(with_reducible first|exact HB.out|apply zA|apply zB|apply zC|refine zF ?_ GE312.out)|exact HB.out))));(case aL=>have:=LMc40.out;omega);intro v337 w45 ho hb hg hat;rw [← Ny336.out] at ho;have n0_:=zm (Kd.R_after (ok:=(fun k_=>some k_ ≠ (.slice (some ad325) x5_2.length co21 : Value).ownBlock∧some k_ ≠ (v334 : Value).ownBlock)) (by (with_reducible repeat (first|apply zP|apply zQ|apply zR));exact zS HO_4.out (fun _ hk=>⟨⟨hk.1.1,hk.2⟩,hk.1.2⟩)) hg hat);have n1_:=zm (Kd.R_after (ok:=(fun k_=>some k_ ≠ (u4 : Value).ownBlock∧some k_ ≠ (v334 : Value).ownBlock)) (by (with_reducible repeat (first|apply zP|apply zQ|apply zR));exact zS HO_5.out (fun _ hk=>⟨⟨hk.1.1,hk.2⟩,hk.1.2⟩)) hg hat);have n2_:=zm (blk_grown (g:=gb312) (o:=.cells #[.slice A0_0 l0_0.length c0_0,.slice A0_1 l0_1.length c0_1,.slice A0_2 l0_2.length c0_2,.slice (some ad323) l0_3.length c0_3] 29 (0,0)) (by (with_reducible repeat (first|refine zH ?_ _|refine zI ?_|refine zG ?_ _));exact BK312.out) hg (Kd.R_ne HO_8.out BK312.out (by decide)));have n3_:=zm (Kd.R_after (ok:=(fun k_=>some k_ ≠ (u4 : Value).ownBlock∧some k_ ≠ (.slice (some ad325) x5_2.length co21 : Value).ownBlock)) (by (with_reducible repeat (first|apply zP|apply zQ|apply zR));exact zS HO335.out (fun _ hk=>⟨⟨hk.1,hk.2.1⟩,hk.2.2⟩)) hg hat);have n4_:=zm (hb);have n5_:=zm (ho);clear HO_4;clear HO_5;clear BK312;clear HO335;clear HB;clear HO_8;have HO_4:=n0_;have HO_5:=n1_;have BK312:=n2_;have HO335:=n3_;have HB:=n4_;have HO338:=n5_;clear n0_ n1_ n2_ n3_ n4_ n5_;clear ho hb hg hat))
                  go_roundg k3
                  case measure=>have:=HK1.out;have:=HK2.out;have:=HK3.out;omega
                  case rel=>exact ⟨(y333),(y336),(false),(wrap64 (x38_3 + 1)),(by first|rfl|(simp;done)|(simp [*];done)),(by first|rfl|(simp;done)|(simp [*];done)),H',⟨by have:=HK1.out;have:=HK2.out;have:=HK3.out;omega⟩,⟨by (try simp only [hl5_1]);(with_reducible repeat (first|apply zP|apply zQ|apply zR));exact zS HO_4.out (fun _ hk=>⟨hk.1.1,⟨hk.1.2,hk.2⟩⟩)⟩,⟨by (try simp only [hl5_1]);(with_reducible repeat (first|apply zP|apply zQ|apply zR));exact zS HO_5.out (fun _ hk=>⟨hk.1.1,⟨hk.1.2,hk.2⟩⟩)⟩,⟨by (try simp only [hl5_1]);(with_reducible repeat (first|apply zP|apply zQ|apply zR));exact zS HO335.out (fun _ hk=>⟨hk.1.1,⟨hk.1.2,hk.2⟩⟩)⟩,⟨by (try simp only [hl5_1]);(with_reducible repeat (first|apply zP|apply zQ|apply zR));exact HO338.out⟩,⟨by (try simp only [hl5_1]);(with_reducible repeat (first|refine zH ?_ _|refine zI ?_|refine zG ?_ _));exact BK312.out⟩,⟨by repeat (first|(with_reducible first|exact HB.out|apply zA|apply zB|apply zC|refine zF ?_ GE312.out)|exact HB.out)⟩⟩
                 ·rw [if_neg c40] at H
                  exact absurd H (by simp)
                ·rw [if_neg c39] at H
                 exact absurd H (by simp)
              ·rw [if_neg c28] at H
               exact absurd H (by simp)
             ·replace c27:=Bool.eq_false_iff.mpr c27
              subst c27
              have H1 : (if x7_3.length < 17592186044416 then (if x8_3.length < 17592186044416 then (spec_l2both.l2 k3 x4_2 x5_2 (x7_3 ++ [t322]) (x8_3 ++ [t324]) false (x5_2.length : Int) (wrap64 (x38_3 + 1)) l0_0 l0_1 l0_2 l0_3) else (none)) else (none)) = some (r1,r2):=by rw [if_neg (show ¬ (false = true) by decide)] at H;exact H
              clear H
              have H:=H1
              clear H1
              by_cases c46 : x7_3.length < 17592186044416
              ·rw [if_pos c46] at H
               have LMc46:=zm c46
               clear c46
               obtain ⟨y339,hy339⟩ : ∃ y_ : List Int,y_ = (x7_3 ++ [t322]):=⟨_,rfl⟩
               replace H : (if x8_3.length < 17592186044416 then (spec_l2both.l2 k3 x4_2 x5_2 y339 (x8_3 ++ [t324]) false (x5_2.length : Int) (wrap64 (x38_3 + 1)) l0_0 l0_1 l0_2 l0_3) else (none)) = some (r1,r2):=by first|(rw [hy339];with_reducible exact H)|(have H2_:=(Option.bind_some _ _).symm.trans H;rw [hy339];with_reducible exact H2_)|(have H2_:=(Option.bind_some _ _).symm.trans H;with_reducible exact H2_)|with_reducible exact H|(rw [hy339];exact H)|exact H
               have Ny339:=zm hy339
               clear hy339
               by_cases c47 : x8_3.length < 17592186044416
               ·rw [if_pos c47] at H
                have LMc47:=zm c47
                clear c47
                obtain ⟨y342,hy342⟩ : ∃ y_ : List Int,y_ = (x8_3 ++ [t324]):=⟨_,rfl⟩
                replace H : (spec_l2both.l2 k3 x4_2 x5_2 y339 y342 false (x5_2.length : Int) (wrap64 (x38_3 + 1)) l0_0 l0_1 l0_2 l0_3) = some (r1,r2):=by first|(rw [hy342];with_reducible exact H)|(have H2_:=(Option.bind_some _ _).symm.trans H;rw [hy342];with_reducible exact H2_)|(have H2_:=(Option.bind_some _ _).symm.trans H;with_reducible exact H2_)|with_reducible exact H|(rw [hy342];exact H)|exact H
                have Ny342:=zm hy342
                clear hy342
                have H':=zm H
                clear H
                have hcz48_0 : wr.cell? ⟨gb312,0,none⟩ = some (.slice A0_0 l0_0.length c0_0):=(zD BK312.out 0).trans rfl
                have hcz48_1 : wr.cell? ⟨gb312,1,none⟩ = some (.slice A0_1 l0_1.length c0_1):=(zD BK312.out 1).trans rfl
                have hcz48_2 : wr.cell? ⟨gb312,2,none⟩ = some (.slice A0_2 l0_2.length c0_2):=(zD BK312.out 2).trans rfl
                have hcz48_3 : wr.cell? ⟨gb312,3,none⟩ = some (.slice A0_3 l0_3.length c0_3):=(zD BK312.out 3).trans rfl
                have hfz48_0:=zE BK312.out 0
                have hfz48_1:=zE BK312.out 1
                have hfz48_2:=zE BK312.out 2
                have hfz48_3:=zE BK312.out 3
                go_wp2_with (first|((with_reducible refine gate_callee (f:=26) rfl ?_);refine goesL_ (some 44) rfl rfl Try.func26 (by kernel_rfl) rfl #[.agg #[.slice A0_0 l0_0.length c0_0,.slice A0_1 l0_1.length c0_1,.slice A0_2 l0_2.length c0_2,.slice A0_3 l0_3.length c0_3],.slice Ao21 x5_2.length co21,.int .i64 x38_3] rfl (by (try simp only [List.map_toArray,List.map_cons,List.map_nil]);first|done|rfl|(simp only [List.length_drop,List.length_take];rfl)) ?_;(with_reducible refine (spec_l2want.calls _ _ l0_0 _ _ l0_1 _ _ l0_2 _ _ l0_3 _ _ x5_2 x38_3 t322 _ ?side1 ?side2 ?side3 ?side4 ?side5 ?side6 ?side7 ?side8 ?side9 ?side10 A23.out).mono ?_);(case side1=>repeat (first|exact (zY HR0_0.out HB.out)|(with_reducible refine zT ?_ _)|(with_reducible refine zU ?_ _)|(with_reducible refine zV ?_)));(case side2=>exact HC0_0.out);(case side3=>repeat (first|exact (zY HR0_1.out HB.out)|(with_reducible refine zT ?_ _)|(with_reducible refine zU ?_ _)|(with_reducible refine zV ?_)));(case side4=>exact HC0_1.out);(case side5=>repeat (first|exact (zY HR0_2.out HB.out)|(with_reducible refine zT ?_ _)|(with_reducible refine zU ?_ _)|(with_reducible refine zV ?_)));(case side6=>exact HC0_2.out);(case side7=>repeat (first|exact (zY HR0_3.out HB.out)|(with_reducible refine zT ?_ _)|(with_reducible refine zU ?_ _)|(with_reducible refine zV ?_)));(case side8=>exact HC0_3.out);(case side9=>repeat (first|exact (zW HO_5.out).2.2|(with_reducible refine zT ?_ _)|(with_reducible refine zU ?_ _)|(with_reducible refine zV ?_)));(case side10=>exact (zW HO_5.out).2.1);rintro e w49 ⟨rfl,hb⟩;refine ⟨_,rfl,?_⟩;have n0_:=zm (zHb (by (with_reducible repeat (first|apply zP|apply zQ|apply zR));exact HO_4.out) hb);have n1_:=zm (zHb (by (with_reducible repeat (first|apply zP|apply zQ|apply zR));exact HO_5.out) hb);have n2_:=zm (zHb (by (with_reducible repeat (first|apply zP|apply zQ|apply zR));exact HO_7.out) hb);have n3_:=zm (zHb (by (with_reducible repeat (first|apply zP|apply zQ|apply zR));exact HO_8.out) hb);have n4_:=zm (zL (g:=gb312) (o:=.cells #[.slice A0_0 l0_0.length c0_0,.slice A0_1 l0_1.length c0_1,.slice A0_2 l0_2.length c0_2,.slice A0_3 l0_3.length c0_3] 29 (0,0)) (by (with_reducible repeat (first|refine zH ?_ _|refine zI ?_|refine zG ?_ _));exact BK312.out) hb);have n5_:=zm (zK (by repeat (first|(with_reducible first|exact HB.out|apply zA|apply zB|apply zC|refine zF ?_ GE312.out)|exact HB.out)) hb);clear HO_4;clear HO_5;clear HO_7;clear HO_8;clear BK312;clear HB;have HO_4:=n0_;have HO_5:=n1_;have HO_7:=n2_;have HO_8:=n3_;have BK312:=n4_;have HB:=n5_;clear n0_ n1_ n2_ n3_ n4_ n5_;(try clear hb);(try clear hb2);(try clear hk);(try clear hi);have hcz50_0 : w49.cell? ⟨gb312,0,none⟩ = some (.slice A0_0 l0_0.length c0_0):=(zD BK312.out 0).trans rfl;have hcz50_1 : w49.cell? ⟨gb312,1,none⟩ = some (.slice A0_1 l0_1.length c0_1):=(zD BK312.out 1).trans rfl;have hcz50_2 : w49.cell? ⟨gb312,2,none⟩ = some (.slice A0_2 l0_2.length c0_2):=(zD BK312.out 2).trans rfl;have hcz50_3 : w49.cell? ⟨gb312,3,none⟩ = some (.slice A0_3 l0_3.length c0_3):=(zD BK312.out 3).trans rfl;have hfz50_0:=zE BK312.out 0;have hfz50_1:=zE BK312.out 1;have hfz50_2:=zE BK312.out 2;have hfz50_3:=zE BK312.out 3;have p323 : 0 ≤ (x38_3 : Int):=of_decide_eq_true (by first|(with_reducible assumption)|assumption);have q323 : x38_3 < (l0_3.length : Int):=of_decide_eq_true (by first|(with_reducible assumption)|assumption);obtain ⟨ad323,A323_0,c323_0,e323,hx323_0,hl323_0,hi323_0⟩:=at_L3 HR0_3.out x38_3 p323 q323;cases e323;replace hx323_0:=(HB.out.cell (World.block_lt_of_cell? w _ hx323_0)).trans hx323_0;have HR323_0:=zm hi323_0;have HC323_0:=zm hl323_0;clear hi323_0 hl323_0;replace p323:=eq_true p323;replace q323:=eq_true q323)|((with_reducible refine gate_callee (f:=25) rfl ?_);refine goesL_ (some 51) rfl rfl Try.func25 (by kernel_rfl) rfl #[.slice A323_0 (rd_L3 l0_3 x38_3).length c323_0,.int .i64 t322] rfl (by (try simp only [List.map_toArray,List.map_cons,List.map_nil]);first|done|rfl|(simp only [List.length_drop,List.length_take];rfl)) ?_;(with_reducible refine (spec_l2lamp.calls k3 _ _ (rd_L3 l0_3 x38_3) t322 t324 _ ?side1 ?side2 A26.out).mono ?_);(case side1=>repeat (first|exact (zY HR323_0.out HB.out)|(with_reducible refine zT ?_ _)|(with_reducible refine zU ?_ _)|(with_reducible refine zV ?_)));(case side2=>exact HC323_0.out);rintro e w' ⟨rfl,⟨nd,rfl⟩⟩;refine ⟨_,rfl,?_⟩)|((with_reducible refine gate_builtin (b:=.append) (xs:=#[.tmp 69,.tmp 71]) rfl ?_);at_builtin;refine Kd.R_append (Kd.int .i64) (w0:=w) w.heap.size rfl (.tmp 69) (.tmp 71) 25 3 (.int .i64 0) 8 rfl Try.underlying25 info3 rfl (by decide) (by omega) u7 x7_3 t322 [.int .i64 t322] (fun k_=>some k_ ≠ (u4 : Value).ownBlock∧some k_ ≠ (.slice Ao21 x5_2.length co21 : Value).ownBlock∧some k_ ≠ (u8 : Value).ownBlock) (fun _=>False) rfl rfl ?aP (fun _ hk=>hk.elim) ?aF ?aO ?aB ?aS ?aL ?_;(case aP=>exact rfl);(case aB=>exact (by repeat (first|(with_reducible first|exact HB.out|apply zA|apply zB|apply zC|refine zF ?_ GE312.out)|exact HB.out)));(case aF=>exact (fun k_ hk=>⟨Kd.fresh' (Kd.R_lt (by (with_reducible repeat (first|apply zP|apply zQ|apply zR));exact HO_4.out)) k_ hk,Kd.fresh' (Kd.R_lt (by (with_reducible repeat (first|apply zP|apply zQ|apply zR));exact HO_5.out)) k_ hk,Kd.fresh' (Kd.R_lt (by (with_reducible repeat (first|apply zP|apply zQ|apply zR));exact HO_8.out)) k_ hk⟩));(case aO=>exact (by (with_reducible repeat (first|apply zP|apply zQ|apply zR));exact HO_7.out));(case aS=>exact (zJ (by repeat (first|(with_reducible first|exact HB.out|apply zA|apply zB|apply zC|refine zF ?_ GE312.out)|exact HB.out))));(case aL=>have:=LMc46.out;omega);intro v340 w51 ho hb hg hat;rw [← Ny339.out] at ho;have n0_:=zm (Kd.R_after (ok:=(fun k_=>some k_ ≠ (.slice Ao21 x5_2.length co21 : Value).ownBlock∧some k_ ≠ (u8 : Value).ownBlock)) (by (with_reducible repeat (first|apply zP|apply zQ|apply zR));exact zS HO_4.out (fun _ hk=>⟨⟨hk.1,hk.2.2⟩,hk.2.1⟩)) hg hat);have n1_:=zm (Kd.R_after (ok:=(fun k_=>some k_ ≠ (u4 : Value).ownBlock∧some k_ ≠ (u8 : Value).ownBlock)) (by (with_reducible repeat (first|apply zP|apply zQ|apply zR));exact zS HO_5.out (fun _ hk=>⟨⟨hk.1,hk.2.2⟩,hk.2.1⟩)) hg hat);have n2_:=zm (Kd.R_after (ok:=(fun k_=>some k_ ≠ (u4 : Value).ownBlock∧some k_ ≠ (.slice Ao21 x5_2.length co21 : Value).ownBlock)) (by (with_reducible repeat (first|apply zP|apply zQ|apply zR));exact zS HO_8.out (fun _ hk=>⟨⟨hk.1,hk.2.1⟩,hk.2.2⟩)) hg hat);have n3_:=zm (blk_grown (g:=gb312) (o:=.cells #[.slice A0_0 l0_0.length c0_0,.slice A0_1 l0_1.length c0_1,.slice A0_2 l0_2.length c0_2,.slice (some ad323) l0_3.length c0_3] 29 (0,0)) (by (with_reducible repeat (first|refine zH ?_ _|refine zI ?_|refine zG ?_ _));exact BK312.out) hg (Kd.R_ne HO_7.out BK312.out (by decide)));have n4_:=zm (hb);have n5_:=zm (ho);clear HO_4;clear HO_5;clear HO_8;clear BK312;clear HB;clear HO_7;have HO_4:=n0_;have HO_5:=n1_;have HO_8:=n2_;have BK312:=n3_;have HB:=n4_;have HO341:=n5_;clear n0_ n1_ n2_ n3_ n4_ n5_;clear ho hb hg hat)|((with_reducible refine gate_builtin (b:=.append) (xs:=#[.tmp 73,.tmp 75]) rfl ?_);at_builtin;refine Kd.R_append (Kd.int .i64) (w0:=w) w.heap.size rfl (.tmp 73) (.tmp 75) 25 3 (.int .i64 0) 8 rfl Try.underlying25 info3 rfl (by decide) (by omega) u8 x8_3 t324 [.int .i64 t324] (fun k_=>some k_ ≠ (u4 : Value).ownBlock∧some k_ ≠ (.slice Ao21 x5_2.length co21 : Value).ownBlock∧some k_ ≠ (v340 : Value).ownBlock) (fun _=>False) rfl rfl ?aP (fun _ hk=>hk.elim) ?aF ?aO ?aB ?aS ?aL ?_;(case aP=>exact rfl);(case aB=>exact (by repeat (first|(with_reducible first|exact HB.out|apply zA|apply zB|apply zC|refine zF ?_ GE312.out)|exact HB.out)));(case aF=>exact (fun k_ hk=>⟨Kd.fresh' (Kd.R_lt (by (with_reducible repeat (first|apply zP|apply zQ|apply zR));exact HO_4.out)) k_ hk,Kd.fresh' (Kd.R_lt (by (with_reducible repeat (first|apply zP|apply zQ|apply zR));exact HO_5.out)) k_ hk,Kd.fresh' (Kd.R_lt (by (with_reducible repeat (first|apply zP|apply zQ|apply zR));exact HO341.out)) k_ hk⟩));(case aO=>exact (by (with_reducible repeat (first|apply zP|apply zQ|apply zR));exact zS HO_8.out (fun _ hk=>⟨hk.1.1,⟨hk.1.2,hk.2⟩⟩)));(case aS=>exact (zJ (by repeat (first|(with_reducible first|exact HB.out|apply zA|apply zB|apply zC|refine zF ?_ GE312.out)|exact HB.out))));(case aL=>have:=LMc47.out;omega);intro v343 w52 ho hb hg hat;rw [← Ny342.out] at ho;have n0_:=zm (Kd.R_after (ok:=(fun k_=>some k_ ≠ (.slice Ao21 x5_2.length co21 : Value).ownBlock∧some k_ ≠ (v340 : Value).ownBlock)) (by (with_reducible repeat (first|apply zP|apply zQ|apply zR));exact zS HO_4.out (fun _ hk=>⟨⟨hk.1.1,hk.2⟩,hk.1.2⟩)) hg hat);have n1_:=zm (Kd.R_after (ok:=(fun k_=>some k_ ≠ (u4 : Value).ownBlock∧some k_ ≠ (v340 : Value).ownBlock)) (by (with_reducible repeat (first|apply zP|apply zQ|apply zR));exact zS HO_5.out (fun _ hk=>⟨⟨hk.1.1,hk.2⟩,hk.1.2⟩)) hg hat);have n2_:=zm (blk_grown (g:=gb312) (o:=.cells #[.slice A0_0 l0_0.length c0_0,.slice A0_1 l0_1.length c0_1,.slice A0_2 l0_2.length c0_2,.slice (some ad323) l0_3.length c0_3] 29 (0,0)) (by (with_reducible repeat (first|refine zH ?_ _|refine zI ?_|refine zG ?_ _));exact BK312.out) hg (Kd.R_ne HO_8.out BK312.out (by decide)));have n3_:=zm (Kd.R_after (ok:=(fun k_=>some k_ ≠ (u4 : Value).ownBlock∧some k_ ≠ (.slice Ao21 x5_2.length co21 : Value).ownBlock)) (by (with_reducible repeat (first|apply zP|apply zQ|apply zR));exact zS HO341.out (fun _ hk=>⟨⟨hk.1,hk.2.1⟩,hk.2.2⟩)) hg hat);have n4_:=zm (hb);have n5_:=zm (ho);clear HO_4;clear HO_5;clear BK312;clear HO341;clear HB;clear HO_8;have HO_4:=n0_;have HO_5:=n1_;have BK312:=n2_;have HO341:=n3_;have HB:=n4_;have HO344:=n5_;clear n0_ n1_ n2_ n3_ n4_ n5_;clear ho hb hg hat))
                go_roundg k3
                case measure=>have:=HK1.out;have:=HK2.out;have:=HK3.out;omega
                case rel=>exact ⟨(y339),(y342),(false),(wrap64 (x38_3 + 1)),(by first|rfl|(simp;done)|(simp [*];done)),(by first|rfl|(simp;done)|(simp [*];done)),H',⟨by have:=HK1.out;have:=HK2.out;have:=HK3.out;omega⟩,⟨by (try simp only [hl5_1]);(with_reducible repeat (first|apply zP|apply zQ|apply zR));exact zS HO_4.out (fun _ hk=>⟨hk.1.1,⟨hk.1.2,hk.2⟩⟩)⟩,⟨by (try simp only [hl5_1]);(with_reducible repeat (first|apply zP|apply zQ|apply zR));exact zS HO_5.out (fun _ hk=>⟨hk.1.1,⟨hk.1.2,hk.2⟩⟩)⟩,⟨by (try simp only [hl5_1]);(with_reducible repeat (first|apply zP|apply zQ|apply zR));exact zS HO341.out (fun _ hk=>⟨hk.1.1,⟨hk.1.2,hk.2⟩⟩)⟩,⟨by (try simp only [hl5_1]);(with_reducible repeat (first|apply zP|apply zQ|apply zR));exact HO344.out⟩,⟨by (try simp only [hl5_1]);(with_reducible repeat (first|refine zH ?_ _|refine zI ?_|refine zG ?_ _));exact BK312.out⟩,⟨by repeat (first|(with_reducible first|exact HB.out|apply zA|apply zB|apply zC|refine zF ?_ GE312.out)|exact HB.out)⟩⟩
               ·rw [if_neg c47] at H
                exact absurd H (by simp)
              ·rw [if_neg c46] at H
               exact absurd H (by simp)
            ·rw [if_neg c25] at H
             exact absurd H (by simp)
           ·rw [if_neg c24] at H
            exact absurd H (by simp)
          ·rw [if_neg c22] at H
           have c22b0 : decide (x38_3 < (x5_2.length : Int)) = false:=decide_eq_false c22
           have c22b0_h:=c22b0
           (try simp only [hl5_1] at c22b0_h)
           clear c22
           by_cases c53 : x9_3 = true
           ·subst c53
            have H1 : (some (x4_2,x5_2)) = some (r1,r2):=by rw [if_pos rfl] at H;exact H
            clear H
            have H:=H1
            clear H1
            simp only [Option.some.injEq,Prod.mk.injEq] at H
            obtain ⟨rfl,rfl⟩:=H
            go_wp2
            go_ret2
            exact ⟨_,_,by first|rfl|(simp [errW_none,errW_some] <;> rfl)|(simp [*,errW_none,errW_some] <;> rfl),by (with_reducible repeat (first|apply zP|apply zQ|apply zR));exact zS HO_4.out (fun _ hk=>hk.1),by (with_reducible repeat (first|apply zP|apply zQ|apply zR));exact zS HO_5.out (fun _ hk=>hk.1),by repeat (first|(with_reducible first|exact HB.out|apply zA|apply zB|apply zC|refine zF ?_ GE312.out)|exact HB.out)⟩
           ·replace c53:=Bool.eq_false_iff.mpr c53
            subst c53
            have H1 : (spec_l2both.l1 k3 x7_3 x8_3 l0_0 l0_1 l0_2 l0_3) = some (r1,r2):=by rw [if_neg (show ¬ (false = true) by decide)] at H;exact H
            clear H
            have H:=H1
            clear H1
            have H':=zm H
            clear H
            go_wp2
            go_roundg k3
            case measure=>have:=HK1.out;have:=HK2.out;have:=HK3.out;omega
            case rel=>exact ⟨(x7_3),(x8_3),H',⟨by have:=HK1.out;have:=HK2.out;have:=HK3.out;omega⟩,⟨by (try simp only [hl5_1]);(with_reducible repeat (first|apply zP|apply zQ|apply zR));exact zS HO_7.out (fun _ hk=>hk.2.2)⟩,⟨by (try simp only [hl5_1]);(with_reducible repeat (first|apply zP|apply zQ|apply zR));exact zS HO_8.out (fun _ hk=>hk.2.2)⟩,⟨by (try simp only [hl5_1]);(with_reducible repeat (first|refine zH ?_ _|refine zI ?_|refine zG ?_ _));exact BK312.out⟩,⟨by repeat (first|(with_reducible first|exact HB.out|apply zA|apply zB|apply zC|refine zF ?_ GE312.out)|exact HB.out)⟩⟩
  ·rw [if_neg c3] at H
   exact absurd H (by simp)
 ·rw [if_neg c2] at H
  exact absurd H (by simp)

end Go.Proofs.Ytlojolldbbooeaa.P
