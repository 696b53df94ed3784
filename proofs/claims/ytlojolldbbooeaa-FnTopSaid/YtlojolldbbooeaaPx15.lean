-- written by a program of this session (after the kit's print), not trusted: Lean checks it
import Derived.Test.YtlojolldbbooeaaPx0
import Derived.Test.YtlojolldbbooeaaPx1
import Derived.Test.YtlojolldbbooeaaPx6
import Derived.Test.YtlojolldbbooeaaPx10
import Derived.Test.YtlojolldbbooeaaPx13
import Derived.Test.YtlojolldbbooeaaPx14
namespace Go.Proofs.Ytlojolldbbooeaa.P
open Go.RowKit Go.Proofs.YtlojolldbbooeaaW.PrintWords Go.Proofs.YtlojolldbbooeaaW.PrintLast Go.Proofs.YtlojolldbbooeaaW.PrintMore
open Go.Proofs.YtlojolldbbooeaaW.PrintWords renaming below_alloc → zA, below_drew1 → zC, below_set → zF, below_size → zJ, below_step → zK, blk_alloc → zG, blk_below → zL, blk_cell → zD, blk_drew → zI, blk_drewN → zH, blk_frozen → zE, box_event → zN, gate_dst → zM, pw_below_drewN → zB
open Go.Proofs.YtlojolldbbooeaaW.PrintWords.Kd renaming C_alloc → zT, C_below → zY, C_drew → zV, C_drewN → zU, R_alloc → zP, R_base → zCb, R_below → zHb, R_drew → zR, R_drewN → zQ, R_elder' → zGb, R_far → zX, R_lower → zZ, R_mono → zS, R_reads' → zW, R_slice → zAb, R_types → zBb, S_alloc → zDb, S_drew → zFb, S_drewN → zEb
open Go.Proofs.YtlojolldbbooeaaW.PrintWords.Aside0 renaming mk → zm
open Bool renaming true → y', false → n'
attribute [local go_sem] max2_int min2_int max_two min_two max_three min_three max_four min_four   -- for this text's walks alone
set_option linter.unusedVariables false
set_option linter.unusedSimpArgs false

/-! ### laws_FnTop: function 5 -/
mutual
def laws_FnTop.j0 : Nat→List Int→Bool→List Int→List Int→List Bool→List (List Bool)→List Int→List Int→List Bool→List (List Bool)→Option (Bool)
 | 0,_,_,_,_,_,_,_,_,_,_=>none
 | k + 1,x5,x34,x395000,x395001,x395002,x395003,x408000,x408001,x408002,x408003=>if x34 = true then (some false) else (laws_FnTop.l0 k x5 (x5.length : Int) 0 x395000 x395001 x395002 x395003 x408000 x408001 x408002 x408003)
def laws_FnTop.l0 : Nat→List Int→Int→Int→List Int→List Int→List Bool→List (List Bool)→List Int→List Int→List Bool→List (List Bool)→Option (Bool)
 | 0,_,_,_,_,_,_,_,_,_,_,_=>none
 | k + 1,x5,x36,x37,x395000,x395001,x395002,x395003,x408000,x408001,x408002,x408003=>if x37 < x36 then (if 0 ≤ x37 then (if x37 < (x5.length : Int) then (laws_FnTop.l0 k (x5.set (x37 : Int).toNat 77) x36 (wrap64 (x37 + 1)) x395000 x395001 x395002 x395003 x408000 x408001 x408002 x408003) else (none)) else (none)) else ((impl_Shows.f k x395000 x395001 x395002 x395003).bind fun t424=>((spec_Shows.f k x408000 x408001 x408002 x408003).bind fun t427=>((laws_wInts.f k t424 t427).bind fun t430=>(some t430))))
end
def laws_FnTop.f (k : Nat) (l0 : List Int) : Option (Bool):=if (l0.length : Int) > 1048576 then (some true) else ((spec_Rows.f k l0).bind fun bt382=>((spec_Rows.f k l0).bind fun bt395=>((impl_Shows.f k bt382.1 bt382.2.1 bt382.2.2.1 bt382.2.2.2).bind fun t408=>((spec_Shows.f k bt395.1 bt395.2.1 bt395.2.2.1 bt395.2.2.2).bind fun t411=>((laws_wInts.f k t408 t411).bind fun t414=>(if t414 = true then ((impl_Wants.f k bt382.1 bt382.2.1 bt382.2.2.1 bt382.2.2.2).bind fun t415=>((spec_Wants.f k bt395.1 bt395.2.1 bt395.2.2.1 bt395.2.2.2).bind fun t418=>((laws_wInts.f k t415 t418).bind fun t421=>(if t421 = true then ((laws_wRow.f k bt382.1 bt382.2.1 bt382.2.2.1 bt382.2.2.2 bt395.1 bt395.2.1 bt395.2.2.1 bt395.2.2.2).bind fun t422=>(laws_FnTop.j0 k t408 (!t422) bt382.1 bt382.2.1 bt382.2.2.1 bt382.2.2.2 bt395.1 bt395.2.1 bt395.2.2.1 bt395.2.2.2)) else (laws_FnTop.j0 k t408 true bt382.1 bt382.2.1 bt382.2.2.1 bt382.2.2.2 bt395.1 bt395.2.1 bt395.2.2.1 bt395.2.2.2))))) else (laws_FnTop.j0 k t408 true bt382.1 bt382.2.1 bt382.2.2.1 bt382.2.2.2 bt395.1 bt395.2.1 bt395.2.2.1 bt395.2.2.2)))))))
theorem laws_FnTop.mono_l : ∀ k,(∀ y0 y1 y2 y3 y4 y5 y6 y7 y8 y9,LeO (laws_FnTop.j0 k y0 y1 y2 y3 y4 y5 y6 y7 y8 y9) (laws_FnTop.j0 (k + 1) y0 y1 y2 y3 y4 y5 y6 y7 y8 y9))∧(∀ y0 y1 y2 y3 y4 y5 y6 y7 y8 y9 y10,LeO (laws_FnTop.l0 k y0 y1 y2 y3 y4 y5 y6 y7 y8 y9 y10) (laws_FnTop.l0 (k + 1) y0 y1 y2 y3 y4 y5 y6 y7 y8 y9 y10))
 | 0=>⟨fun _ _ _ _ _ _ _ _ _ _ r h=>by simp [laws_FnTop.j0] at h,fun _ _ _ _ _ _ _ _ _ _ _ r h=>by simp [laws_FnTop.l0] at h⟩
 | k + 1=>by
  obtain ⟨ih0,ih1⟩:=laws_FnTop.mono_l k;refine ⟨?_,?_⟩
  ·intro y0 y1 y2 y3 y4 y5 y6 y7 y8 y9
   unfold laws_FnTop.j0
   repeat' first
   | (with_reducible exact ih0 _ _ _ _ _ _ _ _ _ _)
   | (with_reducible exact ih1 _ _ _ _ _ _ _ _ _ _ _)
   | (with_reducible exact impl_Shows.mono _ _ _ _ _)
   | (with_reducible exact impl_Wants.mono _ _ _ _ _)
   | (with_reducible exact laws_wInts.mono _ _ _)
   | (with_reducible exact laws_wRow.mono _ _ _ _ _ _ _ _ _)
   | (with_reducible exact spec_Rows.mono _ _)
   | (with_reducible exact spec_Shows.mono _ _ _ _ _)
   | (with_reducible exact spec_Wants.mono _ _ _ _ _)
   | (with_reducible exact LeO.refl _)
   | (with_reducible exact LeO.none _)
   | (with_reducible refine LeO.ite ?_ ?_)
   | (with_reducible refine LeO.bind ?_ (fun _=>?_))
   | exact ih0 _ _ _ _ _ _ _ _ _ _
   | exact ih1 _ _ _ _ _ _ _ _ _ _ _
   | exact impl_Shows.mono _ _ _ _ _
   | exact impl_Wants.mono _ _ _ _ _
   | exact laws_wInts.mono _ _ _
   | exact laws_wRow.mono _ _ _ _ _ _ _ _ _
   | exact spec_Rows.mono _ _
   | exact spec_Shows.mono _ _ _ _ _
   | exact spec_Wants.mono _ _ _ _ _
   | exact LeO.none _
   | refine LeO.ite ?_ ?_
   | refine LeO.bind ?_ (fun _=>?_)
  ·intro y0 y1 y2 y3 y4 y5 y6 y7 y8 y9 y10
   unfold laws_FnTop.l0
   repeat' first
   | (with_reducible exact ih0 _ _ _ _ _ _ _ _ _ _)
   | (with_reducible exact ih1 _ _ _ _ _ _ _ _ _ _ _)
   | (with_reducible exact impl_Shows.mono _ _ _ _ _)
   | (with_reducible exact impl_Wants.mono _ _ _ _ _)
   | (with_reducible exact laws_wInts.mono _ _ _)
   | (with_reducible exact laws_wRow.mono _ _ _ _ _ _ _ _ _)
   | (with_reducible exact spec_Rows.mono _ _)
   | (with_reducible exact spec_Shows.mono _ _ _ _ _)
   | (with_reducible exact spec_Wants.mono _ _ _ _ _)
   | (with_reducible exact LeO.refl _)
   | (with_reducible exact LeO.none _)
   | (with_reducible refine LeO.ite ?_ ?_)
   | (with_reducible refine LeO.bind ?_ (fun _=>?_))
   | exact ih0 _ _ _ _ _ _ _ _ _ _
   | exact ih1 _ _ _ _ _ _ _ _ _ _ _
   | exact impl_Shows.mono _ _ _ _ _
   | exact impl_Wants.mono _ _ _ _ _
   | exact laws_wInts.mono _ _ _
   | exact laws_wRow.mono _ _ _ _ _ _ _ _ _
   | exact spec_Rows.mono _ _
   | exact spec_Shows.mono _ _ _ _ _
   | exact spec_Wants.mono _ _ _ _ _
   | exact LeO.none _
   | refine LeO.ite ?_ ?_
   | refine LeO.bind ?_ (fun _=>?_)
theorem laws_FnTop.mono : ∀ a0 k,LeO (laws_FnTop.f k a0) (laws_FnTop.f (k + 1) a0):=by
 intro a0 k
 obtain ⟨ih0,ih1⟩:=laws_FnTop.mono_l k;unfold laws_FnTop.f
 repeat' first
   | (with_reducible exact ih0 _ _ _ _ _ _ _ _ _ _)
   | (with_reducible exact ih1 _ _ _ _ _ _ _ _ _ _ _)
   | (with_reducible exact impl_Shows.mono _ _ _ _ _)
   | (with_reducible exact impl_Wants.mono _ _ _ _ _)
   | (with_reducible exact laws_wInts.mono _ _ _)
   | (with_reducible exact laws_wRow.mono _ _ _ _ _ _ _ _ _)
   | (with_reducible exact spec_Rows.mono _ _)
   | (with_reducible exact spec_Shows.mono _ _ _ _ _)
   | (with_reducible exact spec_Wants.mono _ _ _ _ _)
   | (with_reducible exact LeO.refl _)
   | (with_reducible exact LeO.none _)
   | (with_reducible refine LeO.ite ?_ ?_)
   | (with_reducible refine LeO.bind ?_ (fun _=>?_))
   | exact ih0 _ _ _ _ _ _ _ _ _ _
   | exact ih1 _ _ _ _ _ _ _ _ _ _ _
   | exact impl_Shows.mono _ _ _ _ _
   | exact impl_Wants.mono _ _ _ _ _
   | exact laws_wInts.mono _ _ _
   | exact laws_wRow.mono _ _ _ _ _ _ _ _ _
   | exact spec_Rows.mono _ _
   | exact spec_Shows.mono _ _ _ _ _
   | exact spec_Wants.mono _ _ _ _ _
   | exact LeO.none _
   | refine LeO.ite ?_ ?_
   | refine LeO.bind ?_ (fun _=>?_)
def laws_FnTop.T6 : Bool × List (List Nat × List Nat):=(true,[([],[]),([],[]),([1],[1]),([0,2,2],[0,2]),([3],[3]),([4,3],[4]),([5],[5]),([6,5,5],[5,6]),([5],[5]),([8,7,5],[5,8]),([7,9,9,5],[5,7,9]),([10,5],[5,10]),([5,11],[5,11]),([12,10],[12]),([13],[13]),([13],[13]),([14,15,13,13],[13,14,15]),([16,13],[13,16]),([13,17],[13,17])])
def laws_FnTop.B6 : List Nat:=[0,0,2,7,15,31,63,127,63,511,1023,2047,4095,8191,16383,16383,65535,131071,262143]
theorem laws_FnTop.tab6 : rtab .any (opsOf Try.f5 6) = laws_FnTop.T6:=by kernel_rfl
theorem laws_FnTop.bits6 : waitsOk laws_FnTop.T6.2 laws_FnTop.B6 = true:=by kernel_rfl
set_option maxHeartbeats 8000000 in
set_option maxRecDepth 100000 in
theorem laws_FnTop.calls (k : Nat) (A0 : Option Addr) (c0 : Nat) (l0 : List Int) (r : Bool) (w : World) (hr0 : Kd.C (Kd.int .u8) w A0 l0.length l0) (hc0 : l0.length ≤ c0) (h : laws_FnTop.f k l0 = some r) :
  Calls Try.prog 5 #[.slice A0 l0.length c0] w fun e w'=>e = .returned (.bool r)∧Below w.heap.size w w':=by
 have hu29:=Try.underlying29;have HR0:=zm hr0;have HC0:=zm hc0;clear hr0 hc0;have HB:=zm (Below.refl w.heap.size w);have H : (if (l0.length : Int) > 1048576 then (some true) else ((spec_Rows.f k l0).bind fun bt382=>((spec_Rows.f k l0).bind fun bt395=>((impl_Shows.f k bt382.1 bt382.2.1 bt382.2.2.1 bt382.2.2.2).bind fun t408=>((spec_Shows.f k bt395.1 bt395.2.1 bt395.2.2.1 bt395.2.2.2).bind fun t411=>((laws_wInts.f k t408 t411).bind fun t414=>(if t414 = true then ((impl_Wants.f k bt382.1 bt382.2.1 bt382.2.2.1 bt382.2.2.2).bind fun t415=>((spec_Wants.f k bt395.1 bt395.2.1 bt395.2.2.1 bt395.2.2.2).bind fun t418=>((laws_wInts.f k t415 t418).bind fun t421=>(if t421 = true then ((laws_wRow.f k bt382.1 bt382.2.1 bt382.2.2.1 bt382.2.2.2 bt395.1 bt395.2.1 bt395.2.2.1 bt395.2.2.2).bind fun t422=>(laws_FnTop.j0 k t408 (!t422) bt382.1 bt382.2.1 bt382.2.2.1 bt382.2.2.2 bt395.1 bt395.2.1 bt395.2.2.1 bt395.2.2.2)) else (laws_FnTop.j0 k t408 true bt382.1 bt382.2.1 bt382.2.2.1 bt382.2.2.2 bt395.1 bt395.2.1 bt395.2.2.1 bt395.2.2.2))))) else (laws_FnTop.j0 k t408 true bt382.1 bt382.2.1 bt382.2.2.1 bt382.2.2.2 bt395.1 bt395.2.1 bt395.2.2.1 bt395.2.2.2)))))))) = some r:=h
 clear h;by_cases c2 : (l0.length : Int) > 1048576
 ·rw [if_pos c2] at H;have c2b0 : decide (1048576 < (l0.length : Int)) = true:=decide_eq_true c2;have c2b1 : decide (1048576 < l0.length) = true:=decide_eq_true (by omega)
  clear c2;obtain rfl:=Option.some.inj H;go_enter Try.func5,Try.ntmps5
  go_wp2;go_ret
  exact ⟨by first|rfl|(simp [errW_none,errW_some] <;> rfl)|(simp [*,errW_none,errW_some] <;> rfl),by repeat (first|(with_reducible first|exact HB.out|apply zA|apply zB|apply zC)|exact HB.out)⟩
 ·rw [if_neg c2] at H;have c2b0 : decide (1048576 < (l0.length : Int)) = false:=decide_eq_false c2;have c2b1 : decide (1048576 < l0.length) = false:=decide_eq_false (by omega)
  clear c2;replace H:=Option.bind_eq_some_iff.mp H;obtain ⟨⟨t382,t385,t388,t391⟩,A30,H⟩:=H;replace H : ((spec_Rows.f k l0).bind fun bt395=>((impl_Shows.f k t382 t385 t388 t391).bind fun t408=>((spec_Shows.f k bt395.1 bt395.2.1 bt395.2.2.1 bt395.2.2.2).bind fun t411=>((laws_wInts.f k t408 t411).bind fun t414=>(if t414 = true then ((impl_Wants.f k t382 t385 t388 t391).bind fun t415=>((spec_Wants.f k bt395.1 bt395.2.1 bt395.2.2.1 bt395.2.2.2).bind fun t418=>((laws_wInts.f k t415 t418).bind fun t421=>(if t421 = true then ((laws_wRow.f k t382 t385 t388 t391 bt395.1 bt395.2.1 bt395.2.2.1 bt395.2.2.2).bind fun t422=>(laws_FnTop.j0 k t408 (!t422) t382 t385 t388 t391 bt395.1 bt395.2.1 bt395.2.2.1 bt395.2.2.2)) else (laws_FnTop.j0 k t408 true t382 t385 t388 t391 bt395.1 bt395.2.1 bt395.2.2.1 bt395.2.2.2))))) else (laws_FnTop.j0 k t408 true t382 t385 t388 t391 bt395.1 bt395.2.1 bt395.2.2.1 bt395.2.2.2)))))) = some r:=H
  have A3:=zm A30;clear A30;replace H:=Option.bind_eq_some_iff.mp H;obtain ⟨⟨t395,t398,t401,t404⟩,A40,H⟩:=H;replace H : ((impl_Shows.f k t382 t385 t388 t391).bind fun t408=>((spec_Shows.f k t395 t398 t401 t404).bind fun t411=>((laws_wInts.f k t408 t411).bind fun t414=>(if t414 = true then ((impl_Wants.f k t382 t385 t388 t391).bind fun t415=>((spec_Wants.f k t395 t398 t401 t404).bind fun t418=>((laws_wInts.f k t415 t418).bind fun t421=>(if t421 = true then ((laws_wRow.f k t382 t385 t388 t391 t395 t398 t401 t404).bind fun t422=>(laws_FnTop.j0 k t408 (!t422) t382 t385 t388 t391 t395 t398 t401 t404)) else (laws_FnTop.j0 k t408 true t382 t385 t388 t391 t395 t398 t401 t404))))) else (laws_FnTop.j0 k t408 true t382 t385 t388 t391 t395 t398 t401 t404))))) = some r:=H
  have A4:=zm A40;clear A40;replace H:=Option.bind_eq_some_iff.mp H;obtain ⟨t408,A50,H⟩:=H;replace H : ((spec_Shows.f k t395 t398 t401 t404).bind fun t411=>((laws_wInts.f k t408 t411).bind fun t414=>(if t414 = true then ((impl_Wants.f k t382 t385 t388 t391).bind fun t415=>((spec_Wants.f k t395 t398 t401 t404).bind fun t418=>((laws_wInts.f k t415 t418).bind fun t421=>(if t421 = true then ((laws_wRow.f k t382 t385 t388 t391 t395 t398 t401 t404).bind fun t422=>(laws_FnTop.j0 k t408 (!t422) t382 t385 t388 t391 t395 t398 t401 t404)) else (laws_FnTop.j0 k t408 true t382 t385 t388 t391 t395 t398 t401 t404))))) else (laws_FnTop.j0 k t408 true t382 t385 t388 t391 t395 t398 t401 t404)))) = some r:=H
  have A5:=zm A50;clear A50;have HC6:=zm H;clear H;go_enter Try.func5,Try.ntmps5
  go_upto_region 6 with (first|((with_reducible refine gate_callee (f:=9) rfl ?_);refine goesL_ (some 11) rfl rfl Try.func9 (by kernel_rfl) rfl #[.slice A0 l0.length c0] rfl (by (try simp only [List.map_toArray,List.map_cons,List.map_nil]);first|done|rfl|(simp only [List.length_drop,List.length_take];rfl)) ?_;(with_reducible refine (spec_Rows.calls k _ _ l0 t382 t385 t388 t391 _ ?side1 ?side2 A3.out).mono ?_);(case side1=>repeat (first|exact HR0.out|(with_reducible refine zT ?_ _)|(with_reducible refine zU ?_ _)|(with_reducible refine zV ?_)));(case side2=>exact HC0.out);rintro e w7 ⟨v383,v386,v389,v392,rfl,ho0,ho1,ho2,ho3,hb⟩;refine ⟨_,rfl,?_⟩;have n0_:=zm (zZ ho0 (zJ (by repeat (first|(with_reducible first|exact HB.out|apply zA|apply zB|apply zC)|exact HB.out))));have n1_:=zm (zZ ho1 (zJ (by repeat (first|(with_reducible first|exact HB.out|apply zA|apply zB|apply zC)|exact HB.out))));have n2_:=zm (zZ ho2 (zJ (by repeat (first|(with_reducible first|exact HB.out|apply zA|apply zB|apply zC)|exact HB.out))));have n3_:=zm (Kd.S_lower ho3 (zJ (by repeat (first|(with_reducible first|exact HB.out|apply zA|apply zB|apply zC)|exact HB.out))));have n4_:=zm (zK (by repeat (first|(with_reducible first|exact HB.out|apply zA|apply zB|apply zC)|exact HB.out)) hb);clear HB;have HO384:=n0_;have HO387:=n1_;have HO390:=n2_;have HO393:=n3_;have HB:=n4_;clear n0_ n1_ n2_ n3_ n4_;(try clear hb);(try clear hb2);(try clear hk);(try clear hi);(try clear ho0);(try clear ho1);(try clear ho2);(try clear ho3))|((with_reducible refine zM (N:=3) rfl ?_);refine zN ?hg (N:=3) ?hd (cs:=#[.slice none 0 0,.slice none 0 0,.slice none 0 0,.slice none 0 0]) (t:=29) ?hr ?_;(case hd=>rfl);(case hg=>rfl);(case hr=>first|(go_simp;done)|(go_simp;rfl));intro gb394 hg w8 hbox hb;have n0_:=zm (zHb (by (with_reducible repeat (first|apply zP|apply zQ|apply zR));exact HO384.out) hb);have n1_:=zm (zHb (by (with_reducible repeat (first|apply zP|apply zQ|apply zR));exact HO387.out) hb);have n2_:=zm (zHb (by (with_reducible repeat (first|apply zP|apply zQ|apply zR));exact HO390.out) hb);have n3_:=zm (Kd.S_below (by (with_reducible repeat (first|apply zDb|apply zEb|apply zFb));exact HO393.out) hb);have n4_:=zm (zK (by repeat (first|(with_reducible first|exact HB.out|apply zA|apply zB|apply zC)|exact HB.out)) hb);have n5_:=zm (hbox);have n6_:=zm ((by rw [hg];exact (zJ (by repeat (first|(with_reducible first|exact HB.out|apply zA|apply zB|apply zC)|exact HB.out))) : w.heap.size ≤ gb394));have n7_:=zm ((by rw [hg];exact (zJ (by repeat (first|(with_reducible first|exact HB.out|apply zA|apply zB|apply zC)|exact HB.out))) : w.heap.size ≤ gb394));clear HO384;clear HO387;clear HO390;clear HO393;clear HB;have HO384:=n0_;have HO387:=n1_;have HO390:=n2_;have HO393:=n3_;have HB:=n4_;have BK394:=n5_;have GW394:=n6_;have GE394:=n7_;clear n0_ n1_ n2_ n3_ n4_ n5_ n6_ n7_;clear hb hbox hg;obtain ⟨Ao9,co9,eo9⟩:=zAb HO384.out;subst eo9;have hcz10_0 : w8.cell? ⟨gb394,0,none⟩ = some (.slice none 0 0):=(zD BK394.out 0).trans rfl;have hcz10_1 : w8.cell? ⟨gb394,1,none⟩ = some (.slice none 0 0):=(zD BK394.out 1).trans rfl;have hcz10_2 : w8.cell? ⟨gb394,2,none⟩ = some (.slice none 0 0):=(zD BK394.out 2).trans rfl;have hcz10_3 : w8.cell? ⟨gb394,3,none⟩ = some (.slice none 0 0):=(zD BK394.out 3).trans rfl;have hfz10_0:=zE BK394.out 0;have hfz10_1:=zE BK394.out 1;have hfz10_2:=zE BK394.out 2;have hfz10_3:=zE BK394.out 3;obtain ⟨Ao11,co11,eo11⟩:=zAb HO387.out;subst eo11;obtain ⟨Ao12,co12,eo12⟩:=zAb HO390.out;subst eo12;obtain ⟨Ao13,co13,eo13⟩:=Kd.S_slice HO393.out;subst eo13)|((with_reducible refine gate_callee (f:=9) rfl ?_);refine goesL_ (some 13) rfl rfl Try.func9 (by kernel_rfl) rfl #[.slice A0 l0.length c0] rfl (by (try simp only [List.map_toArray,List.map_cons,List.map_nil]);first|done|rfl|(simp only [List.length_drop,List.length_take];rfl)) ?_;(with_reducible refine (spec_Rows.calls k _ _ l0 t395 t398 t401 t404 _ ?side1 ?side2 A4.out).mono ?_);(case side1=>exact zY HR0.out (by repeat (first|(with_reducible first|exact HB.out|apply zA|apply zB|apply zC|refine zF ?_ GE394.out)|exact HB.out)));(case side2=>exact HC0.out);rintro e w14 ⟨v396,v399,v402,v405,rfl,ho0,ho1,ho2,ho3,hb⟩;refine ⟨_,rfl,?_⟩;have n0_:=zm (zS (Kd.R_told (Kd.R_told (Kd.R_old (by (with_reducible repeat (first|apply zP|apply zQ|apply zR));exact (zS (zX (p:=⟨gb394,3,none⟩) (zX (p:=⟨gb394,2,none⟩) (zX (p:=⟨gb394,1,none⟩) (zX (p:=⟨gb394,0,none⟩) (zBb HO384.out BK394.out (by decide)) (fun _ hk=>hk.2) (.slice Ao9 t382.length co9)) (fun _ hk=>hk.2) (.slice Ao11 t385.length co11)) (fun _ hk=>hk.2) (.slice Ao12 t388.length co12)) (fun _ hk=>hk.2) (.slice Ao13 t391.length co13)) (fun _ h_=>h_.1))) hb) (zCb ho0)) (zCb ho1)) (fun _ h_=>h_.1));have n1_:=zm (zS (Kd.R_told (Kd.R_told (Kd.R_old (by (with_reducible repeat (first|apply zP|apply zQ|apply zR));exact (zS (zX (p:=⟨gb394,3,none⟩) (zX (p:=⟨gb394,2,none⟩) (zX (p:=⟨gb394,1,none⟩) (zX (p:=⟨gb394,0,none⟩) (zBb HO387.out BK394.out (by decide)) (fun _ hk=>hk.2) (.slice Ao9 t382.length co9)) (fun _ hk=>hk.2) (.slice Ao11 t385.length co11)) (fun _ hk=>hk.2) (.slice Ao12 t388.length co12)) (fun _ hk=>hk.2) (.slice Ao13 t391.length co13)) (fun _ h_=>h_.1))) hb) (zCb ho0)) (zCb ho1)) (fun _ h_=>h_.1));have n2_:=zm (zGb (by (with_reducible repeat (first|apply zP|apply zQ|apply zR));exact (zS (zX (p:=⟨gb394,3,none⟩) (zX (p:=⟨gb394,2,none⟩) (zX (p:=⟨gb394,1,none⟩) (zX (p:=⟨gb394,0,none⟩) (zBb HO390.out BK394.out (by decide)) (fun _ hk=>hk.2) (.slice Ao9 t382.length co9)) (fun _ hk=>hk.2) (.slice Ao11 t385.length co11)) (fun _ hk=>hk.2) (.slice Ao12 t388.length co12)) (fun _ hk=>hk.2) (.slice Ao13 t391.length co13)) (fun _ h_=>h_.1))) (zCb ho2) hb);have n3_:=zm (Kd.S_mono (Kd.S_told (Kd.S_told (Kd.S_old (by (with_reducible repeat (first|apply zDb|apply zEb|apply zFb));exact (Kd.S_mono (Kd.S_far (p:=⟨gb394,3,none⟩) (Kd.S_far (p:=⟨gb394,2,none⟩) (Kd.S_far (p:=⟨gb394,1,none⟩) (Kd.S_far (p:=⟨gb394,0,none⟩) (Kd.S_types HO393.out BK394.out (by decide)) (fun _ hk=>hk.2) (.slice Ao9 t382.length co9)) (fun _ hk=>hk.2) (.slice Ao11 t385.length co11)) (fun _ hk=>hk.2) (.slice Ao12 t388.length co12)) (fun _ hk=>hk.2) (.slice Ao13 t391.length co13)) (fun _ h_=>h_.1))) hb) (zCb ho2)) (Kd.S_base ho3)) (fun _ h_=>h_.1));have n4_:=zm (zZ (Kd.R_new' (Kd.R_new' ho0 (Kd.R_lt (by (with_reducible repeat (first|apply zP|apply zQ|apply zR));exact (zS (zX (p:=⟨gb394,3,none⟩) (zX (p:=⟨gb394,2,none⟩) (zX (p:=⟨gb394,1,none⟩) (zX (p:=⟨gb394,0,none⟩) (zBb HO384.out BK394.out (by decide)) (fun _ hk=>hk.2) (.slice Ao9 t382.length co9)) (fun _ hk=>hk.2) (.slice Ao11 t385.length co11)) (fun _ hk=>hk.2) (.slice Ao12 t388.length co12)) (fun _ hk=>hk.2) (.slice Ao13 t391.length co13)) (fun _ h_=>h_.1))))) (Kd.R_lt (by (with_reducible repeat (first|apply zP|apply zQ|apply zR));exact (zS (zX (p:=⟨gb394,3,none⟩) (zX (p:=⟨gb394,2,none⟩) (zX (p:=⟨gb394,1,none⟩) (zX (p:=⟨gb394,0,none⟩) (zBb HO387.out BK394.out (by decide)) (fun _ hk=>hk.2) (.slice Ao9 t382.length co9)) (fun _ hk=>hk.2) (.slice Ao11 t385.length co11)) (fun _ hk=>hk.2) (.slice Ao12 t388.length co12)) (fun _ hk=>hk.2) (.slice Ao13 t391.length co13)) (fun _ h_=>h_.1))))) (zJ (by repeat (first|(with_reducible first|exact HB.out|apply zA|apply zB|apply zC|refine zF ?_ GE394.out)|exact HB.out))));have n5_:=zm (zZ (Kd.R_new' (Kd.R_new' ho1 (Kd.R_lt (by (with_reducible repeat (first|apply zP|apply zQ|apply zR));exact (zS (zX (p:=⟨gb394,3,none⟩) (zX (p:=⟨gb394,2,none⟩) (zX (p:=⟨gb394,1,none⟩) (zX (p:=⟨gb394,0,none⟩) (zBb HO384.out BK394.out (by decide)) (fun _ hk=>hk.2) (.slice Ao9 t382.length co9)) (fun _ hk=>hk.2) (.slice Ao11 t385.length co11)) (fun _ hk=>hk.2) (.slice Ao12 t388.length co12)) (fun _ hk=>hk.2) (.slice Ao13 t391.length co13)) (fun _ h_=>h_.1))))) (Kd.R_lt (by (with_reducible repeat (first|apply zP|apply zQ|apply zR));exact (zS (zX (p:=⟨gb394,3,none⟩) (zX (p:=⟨gb394,2,none⟩) (zX (p:=⟨gb394,1,none⟩) (zX (p:=⟨gb394,0,none⟩) (zBb HO387.out BK394.out (by decide)) (fun _ hk=>hk.2) (.slice Ao9 t382.length co9)) (fun _ hk=>hk.2) (.slice Ao11 t385.length co11)) (fun _ hk=>hk.2) (.slice Ao12 t388.length co12)) (fun _ hk=>hk.2) (.slice Ao13 t391.length co13)) (fun _ h_=>h_.1))))) (zJ (by repeat (first|(with_reducible first|exact HB.out|apply zA|apply zB|apply zC|refine zF ?_ GE394.out)|exact HB.out))));have n6_:=zm (zZ (Kd.R_new' ho2 (Kd.R_lt (by (with_reducible repeat (first|apply zP|apply zQ|apply zR));exact (zS (zX (p:=⟨gb394,3,none⟩) (zX (p:=⟨gb394,2,none⟩) (zX (p:=⟨gb394,1,none⟩) (zX (p:=⟨gb394,0,none⟩) (zBb HO390.out BK394.out (by decide)) (fun _ hk=>hk.2) (.slice Ao9 t382.length co9)) (fun _ hk=>hk.2) (.slice Ao11 t385.length co11)) (fun _ hk=>hk.2) (.slice Ao12 t388.length co12)) (fun _ hk=>hk.2) (.slice Ao13 t391.length co13)) (fun _ h_=>h_.1))))) (zJ (by repeat (first|(with_reducible first|exact HB.out|apply zA|apply zB|apply zC|refine zF ?_ GE394.out)|exact HB.out))));have n7_:=zm (Kd.S_lower (Kd.S_new' (Kd.S_new' ho3 (Kd.R_lt (by (with_reducible repeat (first|apply zP|apply zQ|apply zR));exact (zS (zX (p:=⟨gb394,3,none⟩) (zX (p:=⟨gb394,2,none⟩) (zX (p:=⟨gb394,1,none⟩) (zX (p:=⟨gb394,0,none⟩) (zBb HO390.out BK394.out (by decide)) (fun _ hk=>hk.2) (.slice Ao9 t382.length co9)) (fun _ hk=>hk.2) (.slice Ao11 t385.length co11)) (fun _ hk=>hk.2) (.slice Ao12 t388.length co12)) (fun _ hk=>hk.2) (.slice Ao13 t391.length co13)) (fun _ h_=>h_.1))))) (Kd.S_lt (by (with_reducible repeat (first|apply zDb|apply zEb|apply zFb));exact (Kd.S_mono (Kd.S_far (p:=⟨gb394,3,none⟩) (Kd.S_far (p:=⟨gb394,2,none⟩) (Kd.S_far (p:=⟨gb394,1,none⟩) (Kd.S_far (p:=⟨gb394,0,none⟩) (Kd.S_types HO393.out BK394.out (by decide)) (fun _ hk=>hk.2) (.slice Ao9 t382.length co9)) (fun _ hk=>hk.2) (.slice Ao11 t385.length co11)) (fun _ hk=>hk.2) (.slice Ao12 t388.length co12)) (fun _ hk=>hk.2) (.slice Ao13 t391.length co13)) (fun _ h_=>h_.1))))) (zJ (by repeat (first|(with_reducible first|exact HB.out|apply zA|apply zB|apply zC|refine zF ?_ GE394.out)|exact HB.out))));have n8_:=zm (zL (g:=gb394) (o:=.cells #[.slice Ao9 t382.length co9,.slice Ao11 t385.length co11,.slice Ao12 t388.length co12,.slice Ao13 t391.length co13] 29 (0,0)) (by (with_reducible repeat (first|refine zH ?_ _|refine zI ?_|refine zG ?_ _));refine blk_put (cs:=#[.slice Ao9 t382.length co9,.slice Ao11 t385.length co11,.slice Ao12 t388.length co12,.slice none 0 0]) ?_ 3 _ rfl;(with_reducible repeat (first|refine zH ?_ _|refine zI ?_|refine zG ?_ _));refine blk_put (cs:=#[.slice Ao9 t382.length co9,.slice Ao11 t385.length co11,.slice none 0 0,.slice none 0 0]) ?_ 2 _ rfl;(with_reducible repeat (first|refine zH ?_ _|refine zI ?_|refine zG ?_ _));refine blk_put (cs:=#[.slice Ao9 t382.length co9,.slice none 0 0,.slice none 0 0,.slice none 0 0]) ?_ 1 _ rfl;(with_reducible repeat (first|refine zH ?_ _|refine zI ?_|refine zG ?_ _));refine blk_put (cs:=#[.slice none 0 0,.slice none 0 0,.slice none 0 0,.slice none 0 0]) ?_ 0 _ rfl;(with_reducible repeat (first|refine zH ?_ _|refine zI ?_|refine zG ?_ _));exact BK394.out) hb);have n9_:=zm (zK (by repeat (first|(with_reducible first|exact HB.out|apply zA|apply zB|apply zC|refine zF ?_ GE394.out)|exact HB.out)) hb);clear HO384;clear HO387;clear HO390;clear HO393;clear BK394;clear HB;have HO384:=n0_;have HO387:=n1_;have HO390:=n2_;have HO393:=n3_;have HO397:=n4_;have HO400:=n5_;have HO403:=n6_;have HO406:=n7_;have BK394:=n8_;have HB:=n9_;clear n0_ n1_ n2_ n3_ n4_ n5_ n6_ n7_ n8_ n9_;(try clear hb);(try clear hb2);(try clear hk);(try clear hi);(try clear ho0);(try clear ho1);(try clear ho2);(try clear ho3))|((with_reducible refine zM (N:=4) rfl ?_);refine zN ?hg (N:=4) ?hd (cs:=#[.slice none 0 0,.slice none 0 0,.slice none 0 0,.slice none 0 0]) (t:=29) ?hr ?_;(case hd=>rfl);(case hg=>rfl);(case hr=>first|(go_simp;done)|(go_simp;rfl));intro gb407 hg w15 hbox hb;have n0_:=zm (zHb (by (with_reducible repeat (first|apply zP|apply zQ|apply zR));exact HO384.out) hb);have n1_:=zm (zHb (by (with_reducible repeat (first|apply zP|apply zQ|apply zR));exact HO387.out) hb);have n2_:=zm (zHb (by (with_reducible repeat (first|apply zP|apply zQ|apply zR));exact HO390.out) hb);have n3_:=zm (Kd.S_below (by (with_reducible repeat (first|apply zDb|apply zEb|apply zFb));exact HO393.out) hb);have n4_:=zm (zHb (by (with_reducible repeat (first|apply zP|apply zQ|apply zR));exact HO397.out) hb);have n5_:=zm (zHb (by (with_reducible repeat (first|apply zP|apply zQ|apply zR));exact HO400.out) hb);have n6_:=zm (zHb (by (with_reducible repeat (first|apply zP|apply zQ|apply zR));exact HO403.out) hb);have n7_:=zm (Kd.S_below (by (with_reducible repeat (first|apply zDb|apply zEb|apply zFb));exact HO406.out) hb);have n8_:=zm (zL (g:=gb394) (o:=.cells #[.slice Ao9 t382.length co9,.slice Ao11 t385.length co11,.slice Ao12 t388.length co12,.slice Ao13 t391.length co13] 29 (0,0)) (by (with_reducible repeat (first|refine zH ?_ _|refine zI ?_|refine zG ?_ _));exact BK394.out) hb);have n9_:=zm (zK (by repeat (first|(with_reducible first|exact HB.out|apply zA|apply zB|apply zC|refine zF ?_ GE394.out)|exact HB.out)) hb);have n10_:=zm (hbox);have n11_:=zm ((by rw [hg];exact (zJ (by repeat (first|(with_reducible first|exact HB.out|apply zA|apply zB|apply zC|refine zF ?_ GE394.out)|exact HB.out))) : w.heap.size ≤ gb407));have n12_:=zm ((by rw [hg];exact (zJ (by repeat (first|(with_reducible first|exact HB.out|apply zA|apply zB|apply zC|refine zF ?_ GE394.out)|exact HB.out))) : w.heap.size ≤ gb407));have n13_:=zm ((by rw [hg];exact Nat.ne_of_lt (blk_lt (g:=gb394) (o:=.cells #[.slice Ao9 t382.length co9,.slice Ao11 t385.length co11,.slice Ao12 t388.length co12,.slice Ao13 t391.length co13] 29 (0,0)) (by (with_reducible repeat (first|refine zH ?_ _|refine zI ?_|refine zG ?_ _));exact BK394.out)) : gb394 ≠ gb407));have n14_:=zm ((by rw [hg];exact Nat.ne_of_gt (blk_lt (g:=gb394) (o:=.cells #[.slice Ao9 t382.length co9,.slice Ao11 t385.length co11,.slice Ao12 t388.length co12,.slice Ao13 t391.length co13] 29 (0,0)) (by (with_reducible repeat (first|refine zH ?_ _|refine zI ?_|refine zG ?_ _));exact BK394.out)) : gb407 ≠ gb394));clear HO384;clear HO387;clear HO390;clear HO393;clear HO397;clear HO400;clear HO403;clear HO406;clear BK394;clear HB;have HO384:=n0_;have HO387:=n1_;have HO390:=n2_;have HO393:=n3_;have HO397:=n4_;have HO400:=n5_;have HO403:=n6_;have HO406:=n7_;have BK394:=n8_;have HB:=n9_;have BK407:=n10_;have GW407:=n11_;have GE407:=n12_;have NB394_407:=n13_;have NB407_394:=n14_;clear n0_ n1_ n2_ n3_ n4_ n5_ n6_ n7_ n8_ n9_ n10_ n11_ n12_ n13_ n14_;clear hb hbox hg;obtain ⟨Ao16,co16,eo16⟩:=zAb HO397.out;subst eo16;have hnb17:=NB407_394.out;have hnc17:=NB394_407.out;have hcz18_0 : w15.cell? ⟨gb407,0,none⟩ = some (.slice none 0 0):=(zD BK407.out 0).trans rfl;have hcz18_1 : w15.cell? ⟨gb407,1,none⟩ = some (.slice none 0 0):=(zD BK407.out 1).trans rfl;have hcz18_2 : w15.cell? ⟨gb407,2,none⟩ = some (.slice none 0 0):=(zD BK407.out 2).trans rfl;have hcz18_3 : w15.cell? ⟨gb407,3,none⟩ = some (.slice none 0 0):=(zD BK407.out 3).trans rfl;have hfz18_0:=zE BK407.out 0;have hfz18_1:=zE BK407.out 1;have hfz18_2:=zE BK407.out 2;have hfz18_3:=zE BK407.out 3;obtain ⟨Ao19,co19,eo19⟩:=zAb HO400.out;subst eo19;obtain ⟨Ao20,co20,eo20⟩:=zAb HO403.out;subst eo20;obtain ⟨Ao21,co21,eo21⟩:=Kd.S_slice HO406.out;subst eo21;have hcz22_0 : w15.cell? ⟨gb394,0,none⟩ = some (.slice Ao9 t382.length co9):=(zD BK394.out 0).trans rfl;have hcz22_1 : w15.cell? ⟨gb394,1,none⟩ = some (.slice Ao11 t385.length co11):=(zD BK394.out 1).trans rfl;have hcz22_2 : w15.cell? ⟨gb394,2,none⟩ = some (.slice Ao12 t388.length co12):=(zD BK394.out 2).trans rfl;have hcz22_3 : w15.cell? ⟨gb394,3,none⟩ = some (.slice Ao13 t391.length co13):=(zD BK394.out 3).trans rfl;have hfz22_0:=zE BK394.out 0;have hfz22_1:=zE BK394.out 1;have hfz22_2:=zE BK394.out 2;have hfz22_3:=zE BK394.out 3)|((with_reducible refine gate_callee (f:=8) rfl ?_);refine goesL_ (some 15) rfl rfl Try.func8 (by kernel_rfl) rfl #[.agg #[.slice Ao9 t382.length co9,.slice Ao11 t385.length co11,.slice Ao12 t388.length co12,.slice Ao13 t391.length co13]] rfl (by (try simp only [List.map_toArray,List.map_cons,List.map_nil]);first|done|rfl|(simp only [List.length_drop,List.length_take];rfl)) ?_;(with_reducible refine (impl_Shows.calls k _ _ t382 _ _ t385 _ _ t388 _ _ t391 t408 _ ?side1 ?side2 ?side3 ?side4 ?side5 ?side6 ?side7 ?side8 A5.out).mono ?_);(case side1=>refine (zW (e:=3) (base:=w.heap.size) (ok:=fun k_=>((some k_ ≠ (.slice Ao11 t385.length co11 : Value).ownBlock∧some k_ ≠ (.slice Ao16 t395.length co16 : Value).ownBlock)∧some k_ ≠ (.slice Ao19 t398.length co19 : Value).ownBlock)) (n:=t382.length) (c:=co9) ?_).2.2;exact (by (with_reducible repeat (first|apply zP|apply zQ|apply zR));exact (zS (zX (p:=⟨gb407,3,none⟩) (zX (p:=⟨gb407,2,none⟩) (zX (p:=⟨gb407,1,none⟩) (zX (p:=⟨gb407,0,none⟩) (zBb HO384.out BK407.out (by decide)) (fun _ hk=>hk.2) (.slice Ao16 t395.length co16)) (fun _ hk=>hk.2) (.slice Ao19 t398.length co19)) (fun _ hk=>hk.2) (.slice Ao20 t401.length co20)) (fun _ hk=>hk.2) (.slice Ao21 t404.length co21)) (fun _ h_=>h_.1))));(case side2=>exact (zW HO384.out).2.1);(case side3=>refine (zW (e:=3) (base:=w.heap.size) (ok:=fun k_=>((some k_ ≠ (.slice Ao9 t382.length co9 : Value).ownBlock∧some k_ ≠ (.slice Ao16 t395.length co16 : Value).ownBlock)∧some k_ ≠ (.slice Ao19 t398.length co19 : Value).ownBlock)) (n:=t385.length) (c:=co11) ?_).2.2;exact (by (with_reducible repeat (first|apply zP|apply zQ|apply zR));exact (zS (zX (p:=⟨gb407,3,none⟩) (zX (p:=⟨gb407,2,none⟩) (zX (p:=⟨gb407,1,none⟩) (zX (p:=⟨gb407,0,none⟩) (zBb HO387.out BK407.out (by decide)) (fun _ hk=>hk.2) (.slice Ao16 t395.length co16)) (fun _ hk=>hk.2) (.slice Ao19 t398.length co19)) (fun _ hk=>hk.2) (.slice Ao20 t401.length co20)) (fun _ hk=>hk.2) (.slice Ao21 t404.length co21)) (fun _ h_=>h_.1))));(case side4=>exact (zW HO387.out).2.1);(case side5=>refine (zW (e:=4) (base:=w.heap.size) (ok:=fun k_=>(True∧some k_ ≠ (.slice Ao20 t401.length co20 : Value).ownBlock)) (n:=t388.length) (c:=co12) ?_).2.2;exact (by (with_reducible repeat (first|apply zP|apply zQ|apply zR));exact (zS (zX (p:=⟨gb407,3,none⟩) (zX (p:=⟨gb407,2,none⟩) (zX (p:=⟨gb407,1,none⟩) (zX (p:=⟨gb407,0,none⟩) (zBb HO390.out BK407.out (by decide)) (fun _ hk=>hk.2) (.slice Ao16 t395.length co16)) (fun _ hk=>hk.2) (.slice Ao19 t398.length co19)) (fun _ hk=>hk.2) (.slice Ao20 t401.length co20)) (fun _ hk=>hk.2) (.slice Ao21 t404.length co21)) (fun _ h_=>h_.1))));(case side6=>exact (zW HO390.out).2.1);(case side7=>refine (Kd.S_reads' (e:=26) (base:=w.heap.size) (ok:=fun k_=>((some k_ ≠ (.slice Ao12 t388.length co12 : Value).ownBlock∧some k_ ≠ (.slice Ao20 t401.length co20 : Value).ownBlock)∧some k_ ≠ (.slice Ao21 t404.length co21 : Value).ownBlock)) (n:=t391.length) (c:=co13) ?_).2.2;exact (by (with_reducible repeat (first|apply zDb|apply zEb|apply zFb));exact (Kd.S_mono (Kd.S_far (p:=⟨gb407,3,none⟩) (Kd.S_far (p:=⟨gb407,2,none⟩) (Kd.S_far (p:=⟨gb407,1,none⟩) (Kd.S_far (p:=⟨gb407,0,none⟩) (Kd.S_types HO393.out BK407.out (by decide)) (fun _ hk=>hk.2) (.slice Ao16 t395.length co16)) (fun _ hk=>hk.2) (.slice Ao19 t398.length co19)) (fun _ hk=>hk.2) (.slice Ao20 t401.length co20)) (fun _ hk=>hk.2) (.slice Ao21 t404.length co21)) (fun _ h_=>h_.1))));(case side8=>exact (Kd.S_reads' HO393.out).2.1);rintro e w23 ⟨v409,rfl,ho0,hb⟩;refine ⟨_,rfl,?_⟩;have n0_:=zm (zGb (by (with_reducible repeat (first|apply zP|apply zQ|apply zR));exact (zS (zX (p:=⟨gb407,3,none⟩) (zX (p:=⟨gb407,2,none⟩) (zX (p:=⟨gb407,1,none⟩) (zX (p:=⟨gb407,0,none⟩) (zBb HO384.out BK407.out (by decide)) (fun _ hk=>hk.2) (.slice Ao16 t395.length co16)) (fun _ hk=>hk.2) (.slice Ao19 t398.length co19)) (fun _ hk=>hk.2) (.slice Ao20 t401.length co20)) (fun _ hk=>hk.2) (.slice Ao21 t404.length co21)) (fun _ h_=>h_.1))) (zCb ho0) hb);have n1_:=zm (zGb (by (with_reducible repeat (first|apply zP|apply zQ|apply zR));exact (zS (zX (p:=⟨gb407,3,none⟩) (zX (p:=⟨gb407,2,none⟩) (zX (p:=⟨gb407,1,none⟩) (zX (p:=⟨gb407,0,none⟩) (zBb HO387.out BK407.out (by decide)) (fun _ hk=>hk.2) (.slice Ao16 t395.length co16)) (fun _ hk=>hk.2) (.slice Ao19 t398.length co19)) (fun _ hk=>hk.2) (.slice Ao20 t401.length co20)) (fun _ hk=>hk.2) (.slice Ao21 t404.length co21)) (fun _ h_=>h_.1))) (zCb ho0) hb);have n2_:=zm (zHb (by (with_reducible repeat (first|apply zP|apply zQ|apply zR));exact (zS (zX (p:=⟨gb407,3,none⟩) (zX (p:=⟨gb407,2,none⟩) (zX (p:=⟨gb407,1,none⟩) (zX (p:=⟨gb407,0,none⟩) (zBb HO390.out BK407.out (by decide)) (fun _ hk=>hk.2) (.slice Ao16 t395.length co16)) (fun _ hk=>hk.2) (.slice Ao19 t398.length co19)) (fun _ hk=>hk.2) (.slice Ao20 t401.length co20)) (fun _ hk=>hk.2) (.slice Ao21 t404.length co21)) (fun _ h_=>h_.1))) hb);have n3_:=zm (Kd.S_below (by (with_reducible repeat (first|apply zDb|apply zEb|apply zFb));exact (Kd.S_mono (Kd.S_far (p:=⟨gb407,3,none⟩) (Kd.S_far (p:=⟨gb407,2,none⟩) (Kd.S_far (p:=⟨gb407,1,none⟩) (Kd.S_far (p:=⟨gb407,0,none⟩) (Kd.S_types HO393.out BK407.out (by decide)) (fun _ hk=>hk.2) (.slice Ao16 t395.length co16)) (fun _ hk=>hk.2) (.slice Ao19 t398.length co19)) (fun _ hk=>hk.2) (.slice Ao20 t401.length co20)) (fun _ hk=>hk.2) (.slice Ao21 t404.length co21)) (fun _ h_=>h_.1))) hb);have n4_:=zm (zGb (by (with_reducible repeat (first|apply zP|apply zQ|apply zR));exact (zS (zX (p:=⟨gb407,3,none⟩) (zX (p:=⟨gb407,2,none⟩) (zX (p:=⟨gb407,1,none⟩) (zX (p:=⟨gb407,0,none⟩) (zBb HO397.out BK407.out (by decide)) (fun _ hk=>hk.2) (.slice Ao16 t395.length co16)) (fun _ hk=>hk.2) (.slice Ao19 t398.length co19)) (fun _ hk=>hk.2) (.slice Ao20 t401.length co20)) (fun _ hk=>hk.2) (.slice Ao21 t404.length co21)) (fun _ h_=>h_.1))) (zCb ho0) hb);have n5_:=zm (zGb (by (with_reducible repeat (first|apply zP|apply zQ|apply zR));exact (zS (zX (p:=⟨gb407,3,none⟩) (zX (p:=⟨gb407,2,none⟩) (zX (p:=⟨gb407,1,none⟩) (zX (p:=⟨gb407,0,none⟩) (zBb HO400.out BK407.out (by decide)) (fun _ hk=>hk.2) (.slice Ao16 t395.length co16)) (fun _ hk=>hk.2) (.slice Ao19 t398.length co19)) (fun _ hk=>hk.2) (.slice Ao20 t401.length co20)) (fun _ hk=>hk.2) (.slice Ao21 t404.length co21)) (fun _ h_=>h_.1))) (zCb ho0) hb);have n6_:=zm (zHb (by (with_reducible repeat (first|apply zP|apply zQ|apply zR));exact (zS (zX (p:=⟨gb407,3,none⟩) (zX (p:=⟨gb407,2,none⟩) (zX (p:=⟨gb407,1,none⟩) (zX (p:=⟨gb407,0,none⟩) (zBb HO403.out BK407.out (by decide)) (fun _ hk=>hk.2) (.slice Ao16 t395.length co16)) (fun _ hk=>hk.2) (.slice Ao19 t398.length co19)) (fun _ hk=>hk.2) (.slice Ao20 t401.length co20)) (fun _ hk=>hk.2) (.slice Ao21 t404.length co21)) (fun _ h_=>h_.1))) hb);have n7_:=zm (Kd.S_below (by (with_reducible repeat (first|apply zDb|apply zEb|apply zFb));exact (Kd.S_mono (Kd.S_far (p:=⟨gb407,3,none⟩) (Kd.S_far (p:=⟨gb407,2,none⟩) (Kd.S_far (p:=⟨gb407,1,none⟩) (Kd.S_far (p:=⟨gb407,0,none⟩) (Kd.S_types HO406.out BK407.out (by decide)) (fun _ hk=>hk.2) (.slice Ao16 t395.length co16)) (fun _ hk=>hk.2) (.slice Ao19 t398.length co19)) (fun _ hk=>hk.2) (.slice Ao20 t401.length co20)) (fun _ hk=>hk.2) (.slice Ao21 t404.length co21)) (fun _ h_=>h_.1))) hb);have n8_:=zm (zZ (Kd.R_new' (Kd.R_new' (Kd.R_new' (Kd.R_new' ho0 (Kd.R_lt (by (with_reducible repeat (first|apply zP|apply zQ|apply zR));exact (zS (zX (p:=⟨gb407,3,none⟩) (zX (p:=⟨gb407,2,none⟩) (zX (p:=⟨gb407,1,none⟩) (zX (p:=⟨gb407,0,none⟩) (zBb HO384.out BK407.out (by decide)) (fun _ hk=>hk.2) (.slice Ao16 t395.length co16)) (fun _ hk=>hk.2) (.slice Ao19 t398.length co19)) (fun _ hk=>hk.2) (.slice Ao20 t401.length co20)) (fun _ hk=>hk.2) (.slice Ao21 t404.length co21)) (fun _ h_=>h_.1))))) (Kd.R_lt (by (with_reducible repeat (first|apply zP|apply zQ|apply zR));exact (zS (zX (p:=⟨gb407,3,none⟩) (zX (p:=⟨gb407,2,none⟩) (zX (p:=⟨gb407,1,none⟩) (zX (p:=⟨gb407,0,none⟩) (zBb HO387.out BK407.out (by decide)) (fun _ hk=>hk.2) (.slice Ao16 t395.length co16)) (fun _ hk=>hk.2) (.slice Ao19 t398.length co19)) (fun _ hk=>hk.2) (.slice Ao20 t401.length co20)) (fun _ hk=>hk.2) (.slice Ao21 t404.length co21)) (fun _ h_=>h_.1))))) (Kd.R_lt (by (with_reducible repeat (first|apply zP|apply zQ|apply zR));exact (zS (zX (p:=⟨gb407,3,none⟩) (zX (p:=⟨gb407,2,none⟩) (zX (p:=⟨gb407,1,none⟩) (zX (p:=⟨gb407,0,none⟩) (zBb HO397.out BK407.out (by decide)) (fun _ hk=>hk.2) (.slice Ao16 t395.length co16)) (fun _ hk=>hk.2) (.slice Ao19 t398.length co19)) (fun _ hk=>hk.2) (.slice Ao20 t401.length co20)) (fun _ hk=>hk.2) (.slice Ao21 t404.length co21)) (fun _ h_=>h_.1))))) (Kd.R_lt (by (with_reducible repeat (first|apply zP|apply zQ|apply zR));exact (zS (zX (p:=⟨gb407,3,none⟩) (zX (p:=⟨gb407,2,none⟩) (zX (p:=⟨gb407,1,none⟩) (zX (p:=⟨gb407,0,none⟩) (zBb HO400.out BK407.out (by decide)) (fun _ hk=>hk.2) (.slice Ao16 t395.length co16)) (fun _ hk=>hk.2) (.slice Ao19 t398.length co19)) (fun _ hk=>hk.2) (.slice Ao20 t401.length co20)) (fun _ hk=>hk.2) (.slice Ao21 t404.length co21)) (fun _ h_=>h_.1))))) (zJ (by repeat (first|(with_reducible first|exact HB.out|apply zA|apply zB|apply zC|refine zF ?_ GE394.out|refine zF ?_ GE407.out)|exact HB.out))));have n9_:=zm (zL (g:=gb394) (o:=.cells #[.slice Ao9 t382.length co9,.slice Ao11 t385.length co11,.slice Ao12 t388.length co12,.slice Ao13 t391.length co13] 29 (0,0)) (by (with_reducible repeat (first|refine zH ?_ _|refine zI ?_|refine zG ?_ _));refine blk_far ?_ NB394_407.out _;(with_reducible repeat (first|refine zH ?_ _|refine zI ?_|refine zG ?_ _));refine blk_far ?_ NB394_407.out _;(with_reducible repeat (first|refine zH ?_ _|refine zI ?_|refine zG ?_ _));refine blk_far ?_ NB394_407.out _;(with_reducible repeat (first|refine zH ?_ _|refine zI ?_|refine zG ?_ _));refine blk_far ?_ NB394_407.out _;(with_reducible repeat (first|refine zH ?_ _|refine zI ?_|refine zG ?_ _));exact BK394.out) hb);have n10_:=zm (zL (g:=gb407) (o:=.cells #[.slice Ao16 t395.length co16,.slice Ao19 t398.length co19,.slice Ao20 t401.length co20,.slice Ao21 t404.length co21] 29 (0,0)) (by (with_reducible repeat (first|refine zH ?_ _|refine zI ?_|refine zG ?_ _));refine blk_put (cs:=#[.slice Ao16 t395.length co16,.slice Ao19 t398.length co19,.slice Ao20 t401.length co20,.slice none 0 0]) ?_ 3 _ rfl;(with_reducible repeat (first|refine zH ?_ _|refine zI ?_|refine zG ?_ _));refine blk_put (cs:=#[.slice Ao16 t395.length co16,.slice Ao19 t398.length co19,.slice none 0 0,.slice none 0 0]) ?_ 2 _ rfl;(with_reducible repeat (first|refine zH ?_ _|refine zI ?_|refine zG ?_ _));refine blk_put (cs:=#[.slice Ao16 t395.length co16,.slice none 0 0,.slice none 0 0,.slice none 0 0]) ?_ 1 _ rfl;(with_reducible repeat (first|refine zH ?_ _|refine zI ?_|refine zG ?_ _));refine blk_put (cs:=#[.slice none 0 0,.slice none 0 0,.slice none 0 0,.slice none 0 0]) ?_ 0 _ rfl;(with_reducible repeat (first|refine zH ?_ _|refine zI ?_|refine zG ?_ _));exact BK407.out) hb);have n11_:=zm (zK (by repeat (first|(with_reducible first|exact HB.out|apply zA|apply zB|apply zC|refine zF ?_ GE394.out|refine zF ?_ GE407.out)|exact HB.out)) hb);clear HO384;clear HO387;clear HO390;clear HO393;clear HO397;clear HO400;clear HO403;clear HO406;clear BK394;clear BK407;clear HB;have HO384:=n0_;have HO387:=n1_;have HO390:=n2_;have HO393:=n3_;have HO397:=n4_;have HO400:=n5_;have HO403:=n6_;have HO406:=n7_;have HO410:=n8_;have BK394:=n9_;have BK407:=n10_;have HB:=n11_;clear n0_ n1_ n2_ n3_ n4_ n5_ n6_ n7_ n8_ n9_ n10_ n11_;(try clear hb);(try clear hb2);(try clear hk);(try clear hi);(try clear ho0)))
  (try simp only [Act.put,List.setIfInBounds_toArray,List.set_cons_zero,List.set_cons_succ]);go_cut [34] (fun v34 wc=>∃ (kq : Nat) (x34_5 : Bool),v34 = .bool x34_5∧Aside0 (laws_FnTop.j0 kq t408 x34_5 t382 t385 t388 t391 t395 t398 t401 t404 = some r)∧Aside0 (kq ≤ k)∧Aside0 (Kd.R (Kd.int .i64) 3 wc w.heap.size (fun k_=>some k_ ≠ ((.slice Ao9 t382.length co9) : Value).ownBlock∧some k_ ≠ ((.slice Ao11 t385.length co11) : Value).ownBlock∧some k_ ≠ ((.slice Ao16 t395.length co16) : Value).ownBlock∧some k_ ≠ ((.slice Ao19 t398.length co19) : Value).ownBlock) v409 t408)∧Aside0 (Kd.R (Kd.int .i64) 3 wc w.heap.size (fun k_=>some k_ ≠ (v409 : Value).ownBlock∧some k_ ≠ ((.slice Ao11 t385.length co11) : Value).ownBlock∧some k_ ≠ ((.slice Ao16 t395.length co16) : Value).ownBlock∧some k_ ≠ ((.slice Ao19 t398.length co19) : Value).ownBlock) (.slice Ao9 t382.length co9) t382)∧Aside0 (Kd.R (Kd.int .i64) 3 wc w.heap.size (fun k_=>some k_ ≠ (v409 : Value).ownBlock∧some k_ ≠ ((.slice Ao9 t382.length co9) : Value).ownBlock∧some k_ ≠ ((.slice Ao16 t395.length co16) : Value).ownBlock∧some k_ ≠ ((.slice Ao19 t398.length co19) : Value).ownBlock) (.slice Ao11 t385.length co11) t385)∧Aside0 (Kd.R Kd.bool 4 wc w.heap.size (fun k_=>some k_ ≠ ((.slice Ao20 t401.length co20) : Value).ownBlock) (.slice Ao12 t388.length co12) t388)∧Aside0 (Kd.S (Kd.slice 4 Kd.bool) 26 wc w.heap.size (fun k_=>some k_ ≠ ((.slice Ao12 t388.length co12) : Value).ownBlock∧some k_ ≠ ((.slice Ao20 t401.length co20) : Value).ownBlock∧some k_ ≠ ((.slice Ao21 t404.length co21) : Value).ownBlock) (.slice Ao13 t391.length co13) t391)∧Aside0 (Kd.R (Kd.int .i64) 3 wc w.heap.size (fun k_=>some k_ ≠ (v409 : Value).ownBlock∧some k_ ≠ ((.slice Ao9 t382.length co9) : Value).ownBlock∧some k_ ≠ ((.slice Ao11 t385.length co11) : Value).ownBlock∧some k_ ≠ ((.slice Ao19 t398.length co19) : Value).ownBlock) (.slice Ao16 t395.length co16) t395)∧Aside0 (Kd.R (Kd.int .i64) 3 wc w.heap.size (fun k_=>some k_ ≠ (v409 : Value).ownBlock∧some k_ ≠ ((.slice Ao9 t382.length co9) : Value).ownBlock∧some k_ ≠ ((.slice Ao11 t385.length co11) : Value).ownBlock∧some k_ ≠ ((.slice Ao16 t395.length co16) : Value).ownBlock) (.slice Ao19 t398.length co19) t398)∧Aside0 (Kd.R Kd.bool 4 wc w.heap.size (fun k_=>some k_ ≠ ((.slice Ao12 t388.length co12) : Value).ownBlock) (.slice Ao20 t401.length co20) t401)∧Aside0 (Kd.S (Kd.slice 4 Kd.bool) 26 wc w.heap.size (fun k_=>some k_ ≠ ((.slice Ao12 t388.length co12) : Value).ownBlock∧some k_ ≠ ((.slice Ao13 t391.length co13) : Value).ownBlock∧some k_ ≠ ((.slice Ao20 t401.length co20) : Value).ownBlock) (.slice Ao21 t404.length co21) t404)∧Aside0 (wc.heap[gb394]? = some (.cells #[(.slice Ao9 t382.length co9),(.slice Ao11 t385.length co11),(.slice Ao12 t388.length co12),(.slice Ao13 t391.length co13)] 29 (0,0)))∧Aside0 (wc.heap[gb407]? = some (.cells #[(.slice Ao16 t395.length co16),(.slice Ao19 t398.length co19),(.slice Ao20 t401.length co20),(.slice Ao21 t404.length co21)] 29 (0,0)))∧Aside0 (Below w.heap.size w wc))
  case first =>
   have H:=HC6.out;clear HC6;replace H:=Option.bind_eq_some_iff.mp H;obtain ⟨t411,A240,H⟩:=H;replace H : ((laws_wInts.f k t408 t411).bind fun t414=>(if t414 = true then ((impl_Wants.f k t382 t385 t388 t391).bind fun t415=>((spec_Wants.f k t395 t398 t401 t404).bind fun t418=>((laws_wInts.f k t415 t418).bind fun t421=>(if t421 = true then ((laws_wRow.f k t382 t385 t388 t391 t395 t398 t401 t404).bind fun t422=>(laws_FnTop.j0 k t408 (!t422) t382 t385 t388 t391 t395 t398 t401 t404)) else (laws_FnTop.j0 k t408 true t382 t385 t388 t391 t395 t398 t401 t404))))) else (laws_FnTop.j0 k t408 true t382 t385 t388 t391 t395 t398 t401 t404))) = some r:=H
   have A24:=zm A240;clear A240;replace H:=Option.bind_eq_some_iff.mp H;obtain ⟨t414,A250,H⟩:=H;replace H : (if t414 = true then ((impl_Wants.f k t382 t385 t388 t391).bind fun t415=>((spec_Wants.f k t395 t398 t401 t404).bind fun t418=>((laws_wInts.f k t415 t418).bind fun t421=>(if t421 = true then ((laws_wRow.f k t382 t385 t388 t391 t395 t398 t401 t404).bind fun t422=>(laws_FnTop.j0 k t408 (!t422) t382 t385 t388 t391 t395 t398 t401 t404)) else (laws_FnTop.j0 k t408 true t382 t385 t388 t391 t395 t398 t401 t404))))) else (laws_FnTop.j0 k t408 true t382 t385 t388 t391 t395 t398 t401 t404)) = some r:=H
   have A25:=zm A250;clear A250;by_cases c26 : t414 = true
   ·subst c26
    have H1 : ((impl_Wants.f k t382 t385 t388 t391).bind fun t415=>((spec_Wants.f k t395 t398 t401 t404).bind fun t418=>((laws_wInts.f k t415 t418).bind fun t421=>(if t421 = true then ((laws_wRow.f k t382 t385 t388 t391 t395 t398 t401 t404).bind fun t422=>(laws_FnTop.j0 k t408 (!t422) t382 t385 t388 t391 t395 t398 t401 t404)) else (laws_FnTop.j0 k t408 true t382 t385 t388 t391 t395 t398 t401 t404))))) = some r:=by rw [if_pos rfl] at H;exact H
    clear H;have H:=H1;clear H1;replace H:=Option.bind_eq_some_iff.mp H;obtain ⟨t415,A270,H⟩:=H;replace H : ((spec_Wants.f k t395 t398 t401 t404).bind fun t418=>((laws_wInts.f k t415 t418).bind fun t421=>(if t421 = true then ((laws_wRow.f k t382 t385 t388 t391 t395 t398 t401 t404).bind fun t422=>(laws_FnTop.j0 k t408 (!t422) t382 t385 t388 t391 t395 t398 t401 t404)) else (laws_FnTop.j0 k t408 true t382 t385 t388 t391 t395 t398 t401 t404)))) = some r:=H
    have A27:=zm A270;clear A270;replace H:=Option.bind_eq_some_iff.mp H;obtain ⟨t418,A280,H⟩:=H;replace H : ((laws_wInts.f k t415 t418).bind fun t421=>(if t421 = true then ((laws_wRow.f k t382 t385 t388 t391 t395 t398 t401 t404).bind fun t422=>(laws_FnTop.j0 k t408 (!t422) t382 t385 t388 t391 t395 t398 t401 t404)) else (laws_FnTop.j0 k t408 true t382 t385 t388 t391 t395 t398 t401 t404))) = some r:=H
    have A28:=zm A280;clear A280;replace H:=Option.bind_eq_some_iff.mp H;obtain ⟨t421,A290,H⟩:=H;replace H : (if t421 = true then ((laws_wRow.f k t382 t385 t388 t391 t395 t398 t401 t404).bind fun t422=>(laws_FnTop.j0 k t408 (!t422) t382 t385 t388 t391 t395 t398 t401 t404)) else (laws_FnTop.j0 k t408 true t382 t385 t388 t391 t395 t398 t401 t404)) = some r:=H
    have A29:=zm A290;clear A290;by_cases c30 : t421 = true
    ·subst c30
     have H1 : ((laws_wRow.f k t382 t385 t388 t391 t395 t398 t401 t404).bind fun t422=>(laws_FnTop.j0 k t408 (!t422) t382 t385 t388 t391 t395 t398 t401 t404)) = some r:=by rw [if_pos rfl] at H;exact H
     clear H;have H:=H1;clear H1;replace H:=Option.bind_eq_some_iff.mp H;obtain ⟨t422,A310,H⟩:=H;replace H : (laws_FnTop.j0 k t408 (!t422) t382 t385 t388 t391 t395 t398 t401 t404) = some r:=H;have A31:=zm A310;clear A310;have H':=zm H;clear H;try go_wp2
     have n0_:=zm (zR HO384.out);have n1_:=zm (zR HO387.out);have n2_:=zm (zR HO390.out);have n3_:=zm (zFb HO393.out);have n4_:=zm (zR HO397.out);have n5_:=zm (zR HO400.out);have n6_:=zm (zR HO403.out);have n7_:=zm (zFb HO406.out);have n8_:=zm (zR HO410.out);have n9_:=zm (zI BK394.out);have n10_:=zm (zI BK407.out);have n11_:=zm (zC HB.out);clear HO384;clear HO387;clear HO390;clear HO393;clear HO397;clear HO400;clear HO403;clear HO406;clear HO410;clear BK394;clear BK407;clear HB;have HO384:=n0_;have HO387:=n1_;have HO390:=n2_;have HO393:=n3_;have HO397:=n4_;have HO400:=n5_;have HO403:=n6_;have HO406:=n7_;have HO410:=n8_;have BK394:=n9_;have BK407:=n10_;have HB:=n11_;clear n0_ n1_ n2_ n3_ n4_ n5_ n6_ n7_ n8_ n9_ n10_ n11_;refine start_ (n:=19) (S:=fun w'=>w'.cell? ⟨gb407,0,none⟩ = some (.slice Ao16 t395.length co16)∧w'.cell? ⟨gb407,1,none⟩ = some (.slice Ao19 t398.length co19)∧w'.cell? ⟨gb407,2,none⟩ = some (.slice Ao20 t401.length co20)∧w'.cell? ⟨gb407,3,none⟩ = some (.slice Ao21 t404.length co21)∧w'.cell? ⟨gb394,0,none⟩ = some (.slice Ao9 t382.length co9)∧w'.cell? ⟨gb394,1,none⟩ = some (.slice Ao11 t385.length co11)∧w'.cell? ⟨gb394,2,none⟩ = some (.slice Ao12 t388.length co12)∧w'.cell? ⟨gb394,3,none⟩ = some (.slice Ao13 t391.length co13)) (ds:=[]) #[n',n',n',n',n',n',n',n',n',n',n',n',n',n',n',n',n',n',n'] (by kernel_rfl) rfl rfl ⟨(zD BK407.out 0).trans rfl,(zD BK407.out 1).trans rfl,(zD BK407.out 2).trans rfl,(zD BK407.out 3).trans rfl,(zD BK394.out 0).trans rfl,(zD BK394.out 1).trans rfl,(zD BK394.out 2).trans rfl,(zD BK394.out 3).trans rfl⟩ (fun hHeld=>?_);refine with_tabW laws_FnTop.tab6 laws_FnTop.bits6 (fun HT_ HW_=>?_)
     generalize w23.drew = w32 at HO384 HO387 HO390 HO393 HO397 HO400 HO403 HO406 HO410 BK394 BK407 HB hHeld ⊢
     refine pure_ (i:=0) (N:=some 16) (v:=?_) (a':=?_) #[y',n',n',n',n',n',n',n',n',n',n',n',n',n',n',n',n',n',n'] rfl rfl (any_of HT_.out (by kernel_rfl)) (fun _ _ _ h=>h) (Or.inl ⟨by rfl,?_⟩) ?_ ?_
     rotate_left
     ·intro w'
      go_simp
      with_reducible rfl
     rotate_left
     ·simp only [Act.put,List.setIfInBounds_toArray,List.set_cons_zero,List.set_cons_succ,i64_w,i32_w]
      rfl
     refine take_ (i:=1) (N:=some 17) (v:=?_) (a':=?_) #[y',y',n',n',n',n',n',n',n',n',n',n',n',n',n',n',n',n',n'] rfl rfl (take_ofW HT_.out HW_.out (by kernel_rfl)) (fun _ _ _ h=>h) (Or.inl ⟨by rfl,?_⟩) hHeld ?_ ?_
     rotate_left
     ·rintro w' ⟨s0,s1,s2,s3,s4,s5,s6,s7⟩
      go_simp
      with_reducible rfl
     rotate_left
     ·simp only [Act.put,List.setIfInBounds_toArray,List.set_cons_zero,List.set_cons_succ,i64_w,i32_w]
      rfl
     refine one_ (i:=2) (N:=some 18) #[y',y',y',n',n',n',n',n',n',n',n',n',n',n',n',n',n',n',n'] rfl rfl (one_of HT_.out (by kernel_rfl)) (by decide) (fun K hK=>?_)
     refine goes_ Try.func11 (by kernel_rfl) rfl #[.agg #[.slice Ao16 t395.length co16,.slice Ao19 t398.length co19,.slice Ao20 t401.length co20,.slice Ao21 t404.length co21]] (by rfl) rfl rfl (by (try simp only [List.map_toArray,List.map_cons,List.map_nil]);first|done|rfl|(simp only [List.length_drop,List.length_take];rfl)) ?_
     with_reducible refine (spec_Shows.calls k _ _ t395 _ _ t398 _ _ t401 _ _ t404 t411 _ ?side1 ?side2 ?side3 ?side4 ?side5 ?side6 ?side7 ?side8 A24.out).mono ?_
     (case side1=>repeat (first|exact (zW HO397.out).2.2|(with_reducible refine zT ?_ _)|(with_reducible refine zU ?_ _)|(with_reducible refine zV ?_)))
     (case side2=>exact (zW HO397.out).2.1)
     (case side3=>repeat (first|exact (zW HO400.out).2.2|(with_reducible refine zT ?_ _)|(with_reducible refine zU ?_ _)|(with_reducible refine zV ?_)))
     (case side4=>exact (zW HO400.out).2.1)
     (case side5=>repeat (first|exact (zW HO403.out).2.2|(with_reducible refine zT ?_ _)|(with_reducible refine zU ?_ _)|(with_reducible refine zV ?_)))
     (case side6=>exact (zW HO403.out).2.1)
     (case side7=>repeat (first|exact (Kd.S_reads' HO406.out).2.2|(with_reducible refine zT ?_ _)|(with_reducible refine zU ?_ _)|(with_reducible refine zV ?_)))
     (case side8=>exact (Kd.S_reads' HO406.out).2.1)
     rintro e w33 ⟨v412,rfl,ho0,hb⟩
     refine ⟨_,rfl,?_⟩
     have n0_:=zm (zGb (by (with_reducible repeat (first|apply zP|apply zQ|apply zR));exact HO384.out) (zCb ho0) hb)
     have n1_:=zm (zGb (by (with_reducible repeat (first|apply zP|apply zQ|apply zR));exact HO387.out) (zCb ho0) hb)
     have n2_:=zm (zHb (by (with_reducible repeat (first|apply zP|apply zQ|apply zR));exact HO390.out) hb)
     have n3_:=zm (Kd.S_below (by (with_reducible repeat (first|apply zDb|apply zEb|apply zFb));exact HO393.out) hb)
     have n4_:=zm (zGb (by (with_reducible repeat (first|apply zP|apply zQ|apply zR));exact HO397.out) (zCb ho0) hb)
     have n5_:=zm (zGb (by (with_reducible repeat (first|apply zP|apply zQ|apply zR));exact HO400.out) (zCb ho0) hb)
     have n6_:=zm (zHb (by (with_reducible repeat (first|apply zP|apply zQ|apply zR));exact HO403.out) hb)
     have n7_:=zm (Kd.S_below (by (with_reducible repeat (first|apply zDb|apply zEb|apply zFb));exact HO406.out) hb)
     have n8_:=zm (zGb (by (with_reducible repeat (first|apply zP|apply zQ|apply zR));exact HO410.out) (zCb ho0) hb)
     have n9_:=zm (zZ (Kd.R_new' (Kd.R_new' (Kd.R_new' (Kd.R_new' (Kd.R_new' ho0 (Kd.R_lt (by (with_reducible repeat (first|apply zP|apply zQ|apply zR));exact HO384.out))) (Kd.R_lt (by (with_reducible repeat (first|apply zP|apply zQ|apply zR));exact HO387.out))) (Kd.R_lt (by (with_reducible repeat (first|apply zP|apply zQ|apply zR));exact HO397.out))) (Kd.R_lt (by (with_reducible repeat (first|apply zP|apply zQ|apply zR));exact HO400.out))) (Kd.R_lt (by (with_reducible repeat (first|apply zP|apply zQ|apply zR));exact HO410.out))) (zJ (by repeat (first|(with_reducible first|exact HB.out|apply zA|apply zB|apply zC|refine zF ?_ GE394.out|refine zF ?_ GE407.out)|exact HB.out))))
     have n10_:=zm (zL (g:=gb394) (o:=.cells #[.slice Ao9 t382.length co9,.slice Ao11 t385.length co11,.slice Ao12 t388.length co12,.slice Ao13 t391.length co13] 29 (0,0)) (by (with_reducible repeat (first|refine zH ?_ _|refine zI ?_|refine zG ?_ _));exact BK394.out) hb)
     have n11_:=zm (zL (g:=gb407) (o:=.cells #[.slice Ao16 t395.length co16,.slice Ao19 t398.length co19,.slice Ao20 t401.length co20,.slice Ao21 t404.length co21] 29 (0,0)) (by (with_reducible repeat (first|refine zH ?_ _|refine zI ?_|refine zG ?_ _));exact BK407.out) hb)
     have n12_:=zm (zK (by repeat (first|(with_reducible first|exact HB.out|apply zA|apply zB|apply zC|refine zF ?_ GE394.out|refine zF ?_ GE407.out)|exact HB.out)) hb)
     clear HO384;clear HO387;clear HO390;clear HO393;clear HO397;clear HO400;clear HO403;clear HO406;clear HO410;clear BK394;clear BK407;clear HB;have HO384:=n0_;have HO387:=n1_;have HO390:=n2_;have HO393:=n3_;have HO397:=n4_;have HO400:=n5_;have HO403:=n6_;have HO406:=n7_;have HO410:=n8_;have HO413:=n9_;have BK394:=n10_;have BK407:=n11_;have HB:=n12_;clear n0_ n1_ n2_ n3_ n4_ n5_ n6_ n7_ n8_ n9_ n10_ n11_ n12_;(try clear hb);(try clear hb2);(try clear hk);(try clear hi);(try clear ho0);obtain ⟨Ao34,co34,eo34⟩:=zAb HO410.out;(first|subst eo34|(injection eo34 with f1_ f2_ f3_;have f4_:=f1_.symm;have f5_:=f3_.symm;clear f1_ f2_ f3_;subst f4_;subst f5_))
     obtain ⟨Ao35,co35,eo35⟩:=zAb HO413.out;(first|subst eo35|(injection eo35 with f1_ f2_ f3_;have f4_:=f1_.symm;have f5_:=f3_.symm;clear f1_ f2_ f3_;subst f4_;subst f5_))
     refine hK.out _ _ ⟨(zD BK407.out 0).trans rfl,(zD BK407.out 1).trans rfl,(zD BK407.out 2).trans rfl,(zD BK407.out 3).trans rfl,(zD BK394.out 0).trans rfl,(zD BK394.out 1).trans rfl,(zD BK394.out 2).trans rfl,(zD BK394.out 3).trans rfl⟩ (fun hHeld=>?_)
     clear hK K;refine norm_ (a':=?_) ?_ ?_
     rotate_left
     ·show Act.put _ (some 18) _ = _
      simp only [Act.put,List.setIfInBounds_toArray,List.set_cons_zero,List.set_cons_succ,i64_w,i32_w]
      rfl
     refine one_ (i:=3) (N:=some 19) #[y',y',y',y',n',n',n',n',n',n',n',n',n',n',n',n',n',n',n'] rfl rfl (one_of HT_.out (by kernel_rfl)) (by decide) (fun K hK=>?_)
     refine goes_ Try.func10 (by kernel_rfl) rfl #[.slice Ao34 t408.length co34,.slice Ao35 t411.length co35] (by rfl) rfl rfl (by (try simp only [List.map_toArray,List.map_cons,List.map_nil]);first|done|rfl|(simp only [List.length_drop,List.length_take];rfl)) ?_
     with_reducible refine (laws_wInts.calls k _ _ t408 _ _ t411 true _ ?side1 ?side2 ?side3 ?side4 A25.out).mono ?_
     (case side1=>repeat (first|exact (zW HO410.out).2.2|(with_reducible refine zT ?_ _)|(with_reducible refine zU ?_ _)|(with_reducible refine zV ?_)))
     (case side2=>exact (zW HO410.out).2.1)
     (case side3=>repeat (first|exact (zW HO413.out).2.2|(with_reducible refine zT ?_ _)|(with_reducible refine zU ?_ _)|(with_reducible refine zV ?_)))
     (case side4=>exact (zW HO413.out).2.1)
     rintro e w' ⟨rfl,⟨nd,rfl⟩⟩
     refine ⟨_,rfl,?_⟩
     refine hK.out _ _ ⟨(zD BK407.out 0).trans rfl,(zD BK407.out 1).trans rfl,(zD BK407.out 2).trans rfl,(zD BK407.out 3).trans rfl,(zD BK394.out 0).trans rfl,(zD BK394.out 1).trans rfl,(zD BK394.out 2).trans rfl,(zD BK394.out 3).trans rfl⟩ (fun hHeld=>?_)
     clear hK K;refine norm_ (a':=?_) ?_ ?_
     rotate_left
     ·show Act.put _ (some 19) _ = _
      simp only [Act.put,List.setIfInBounds_toArray,List.set_cons_zero,List.set_cons_succ,i64_w,i32_w]
      rfl
     refine pure_ (i:=4) (N:=some 20) (v:=?_) (a':=?_) #[y',y',y',y',y',n',n',n',n',n',n',n',n',n',n',n',n',n',n'] rfl rfl (any_of HT_.out (by kernel_rfl)) (fun _ _ _ h=>h) (Or.inl ⟨by rfl,?_⟩) ?_ ?_
     rotate_left
     ·intro w'
      go_simp
      with_reducible rfl
     rotate_left
     ·simp only [Act.put,List.setIfInBounds_toArray,List.set_cons_zero,List.set_cons_succ,i64_w,i32_w]
      rfl
     refine pure_ (i:=5) (N:=some 21) (v:=?_) (a':=?_) #[y',y',y',y',y',y',n',n',n',n',n',n',n',n',n',n',n',n',n'] rfl rfl (any_of HT_.out (by kernel_rfl)) (fun _ _ _ h=>h) (Or.inl ⟨by rfl,?_⟩) ?_ ?_
     rotate_left
     ·intro w'
      go_simp
      with_reducible rfl
     rotate_left
     ·simp only [Act.put,List.setIfInBounds_toArray,List.set_cons_zero,List.set_cons_succ,i64_w,i32_w]
      rfl
     refine take_ (i:=6) (N:=some 22) (v:=?_) (a':=?_) #[y',y',y',y',y',y',y',n',n',n',n',n',n',n',n',n',n',n',n'] rfl rfl (take_ofW HT_.out HW_.out (by kernel_rfl)) (fun _ _ _ h=>h) (Or.inl ⟨by rfl,?_⟩) hHeld ?_ ?_
     rotate_left
     ·rintro w' ⟨s0,s1,s2,s3,s4,s5,s6,s7⟩
      go_simp
      with_reducible rfl
     rotate_left
     ·simp only [Act.put,List.setIfInBounds_toArray,List.set_cons_zero,List.set_cons_succ,i64_w,i32_w]
      rfl
     refine take_ (i:=8) (N:=some 24) (v:=?_) (a':=?_) #[y',y',y',y',y',y',y',n',y',n',n',n',n',n',n',n',n',n',n'] rfl rfl (take_ofW HT_.out HW_.out (by kernel_rfl)) (fun _ _ _ h=>h) (Or.inl ⟨by rfl,?_⟩) hHeld ?_ ?_
     rotate_left
     ·rintro w' ⟨s0,s1,s2,s3,s4,s5,s6,s7⟩
      go_simp
      with_reducible rfl
     rotate_left
     ·simp only [Act.put,List.setIfInBounds_toArray,List.set_cons_zero,List.set_cons_succ,i64_w,i32_w]
      rfl
     refine one_ (i:=7) (N:=some 23) #[y',y',y',y',y',y',y',y',y',n',n',n',n',n',n',n',n',n',n'] rfl rfl (one_of HT_.out (by kernel_rfl)) (by decide) (fun K hK=>?_)
     refine goes_ Try.func12 (by kernel_rfl) rfl #[.agg #[.slice Ao9 t382.length co9,.slice Ao11 t385.length co11,.slice Ao12 t388.length co12,.slice Ao13 t391.length co13]] (by rfl) rfl rfl (by (try simp only [List.map_toArray,List.map_cons,List.map_nil]);first|done|rfl|(simp only [List.length_drop,List.length_take];rfl)) ?_
     with_reducible refine (impl_Wants.calls k _ _ t382 _ _ t385 _ _ t388 _ _ t391 t415 _ ?side1 ?side2 ?side3 ?side4 ?side5 ?side6 ?side7 ?side8 A27.out).mono ?_
     (case side1=>repeat (first|exact (zW HO384.out).2.2|(with_reducible refine zT ?_ _)|(with_reducible refine zU ?_ _)|(with_reducible refine zV ?_)))
     (case side2=>exact (zW HO384.out).2.1)
     (case side3=>repeat (first|exact (zW HO387.out).2.2|(with_reducible refine zT ?_ _)|(with_reducible refine zU ?_ _)|(with_reducible refine zV ?_)))
     (case side4=>exact (zW HO387.out).2.1)
     (case side5=>repeat (first|exact (zW HO390.out).2.2|(with_reducible refine zT ?_ _)|(with_reducible refine zU ?_ _)|(with_reducible refine zV ?_)))
     (case side6=>exact (zW HO390.out).2.1)
     (case side7=>repeat (first|exact (Kd.S_reads' HO393.out).2.2|(with_reducible refine zT ?_ _)|(with_reducible refine zU ?_ _)|(with_reducible refine zV ?_)))
     (case side8=>exact (Kd.S_reads' HO393.out).2.1)
     rintro e w36 ⟨v416,rfl,ho0,hb⟩
     refine ⟨_,rfl,?_⟩
     have n0_:=zm (zGb (by (with_reducible repeat (first|apply zP|apply zQ|apply zR));exact HO384.out) (zCb ho0) hb)
     have n1_:=zm (zGb (by (with_reducible repeat (first|apply zP|apply zQ|apply zR));exact HO387.out) (zCb ho0) hb)
     have n2_:=zm (zHb (by (with_reducible repeat (first|apply zP|apply zQ|apply zR));exact HO390.out) hb)
     have n3_:=zm (Kd.S_below (by (with_reducible repeat (first|apply zDb|apply zEb|apply zFb));exact HO393.out) hb)
     have n4_:=zm (zGb (by (with_reducible repeat (first|apply zP|apply zQ|apply zR));exact HO397.out) (zCb ho0) hb)
     have n5_:=zm (zGb (by (with_reducible repeat (first|apply zP|apply zQ|apply zR));exact HO400.out) (zCb ho0) hb)
     have n6_:=zm (zHb (by (with_reducible repeat (first|apply zP|apply zQ|apply zR));exact HO403.out) hb)
     have n7_:=zm (Kd.S_below (by (with_reducible repeat (first|apply zDb|apply zEb|apply zFb));exact HO406.out) hb)
     have n8_:=zm (zGb (by (with_reducible repeat (first|apply zP|apply zQ|apply zR));exact HO410.out) (zCb ho0) hb)
     have n9_:=zm (zGb (by (with_reducible repeat (first|apply zP|apply zQ|apply zR));exact HO413.out) (zCb ho0) hb)
     have n10_:=zm (zZ (Kd.R_new' (Kd.R_new' (Kd.R_new' (Kd.R_new' (Kd.R_new' (Kd.R_new' ho0 (Kd.R_lt (by (with_reducible repeat (first|apply zP|apply zQ|apply zR));exact HO384.out))) (Kd.R_lt (by (with_reducible repeat (first|apply zP|apply zQ|apply zR));exact HO387.out))) (Kd.R_lt (by (with_reducible repeat (first|apply zP|apply zQ|apply zR));exact HO397.out))) (Kd.R_lt (by (with_reducible repeat (first|apply zP|apply zQ|apply zR));exact HO400.out))) (Kd.R_lt (by (with_reducible repeat (first|apply zP|apply zQ|apply zR));exact HO410.out))) (Kd.R_lt (by (with_reducible repeat (first|apply zP|apply zQ|apply zR));exact HO413.out))) (zJ (by repeat (first|(with_reducible first|exact HB.out|apply zA|apply zB|apply zC|refine zF ?_ GE394.out|refine zF ?_ GE407.out)|exact HB.out))))
     have n11_:=zm (zL (g:=gb394) (o:=.cells #[.slice Ao9 t382.length co9,.slice Ao11 t385.length co11,.slice Ao12 t388.length co12,.slice Ao13 t391.length co13] 29 (0,0)) (by (with_reducible repeat (first|refine zH ?_ _|refine zI ?_|refine zG ?_ _));exact BK394.out) hb)
     have n12_:=zm (zL (g:=gb407) (o:=.cells #[.slice Ao16 t395.length co16,.slice Ao19 t398.length co19,.slice Ao20 t401.length co20,.slice Ao21 t404.length co21] 29 (0,0)) (by (with_reducible repeat (first|refine zH ?_ _|refine zI ?_|refine zG ?_ _));exact BK407.out) hb)
     have n13_:=zm (zK (by repeat (first|(with_reducible first|exact HB.out|apply zA|apply zB|apply zC|refine zF ?_ GE394.out|refine zF ?_ GE407.out)|exact HB.out)) hb)
     clear HO384;clear HO387;clear HO390;clear HO393;clear HO397;clear HO400;clear HO403;clear HO406;clear HO410;clear HO413;clear BK394;clear BK407;clear HB;have HO384:=n0_;have HO387:=n1_;have HO390:=n2_;have HO393:=n3_;have HO397:=n4_;have HO400:=n5_;have HO403:=n6_;have HO406:=n7_;have HO410:=n8_;have HO413:=n9_;have HO417:=n10_;have BK394:=n11_;have BK407:=n12_;have HB:=n13_;clear n0_ n1_ n2_ n3_ n4_ n5_ n6_ n7_ n8_ n9_ n10_ n11_ n12_ n13_;(try clear hb);(try clear hb2);(try clear hk);(try clear hi);(try clear ho0);refine hK.out _ _ ⟨(zD BK407.out 0).trans rfl,(zD BK407.out 1).trans rfl,(zD BK407.out 2).trans rfl,(zD BK407.out 3).trans rfl,(zD BK394.out 0).trans rfl,(zD BK394.out 1).trans rfl,(zD BK394.out 2).trans rfl,(zD BK394.out 3).trans rfl⟩ (fun hHeld=>?_)
     clear hK K;refine norm_ (a':=?_) ?_ ?_
     rotate_left
     ·show Act.put _ (some 23) _ = _
      simp only [Act.put,List.setIfInBounds_toArray,List.set_cons_zero,List.set_cons_succ,i64_w,i32_w]
      rfl
     refine one_ (i:=9) (N:=some 25) #[y',y',y',y',y',y',y',y',y',y',n',n',n',n',n',n',n',n',n'] rfl rfl (one_of HT_.out (by kernel_rfl)) (by decide) (fun K hK=>?_)
     refine goes_ Try.func13 (by kernel_rfl) rfl #[.agg #[.slice Ao16 t395.length co16,.slice Ao19 t398.length co19,.slice Ao20 t401.length co20,.slice Ao21 t404.length co21]] (by rfl) rfl rfl (by (try simp only [List.map_toArray,List.map_cons,List.map_nil]);first|done|rfl|(simp only [List.length_drop,List.length_take];rfl)) ?_
     with_reducible refine (spec_Wants.calls k _ _ t395 _ _ t398 _ _ t401 _ _ t404 t418 _ ?side1 ?side2 ?side3 ?side4 ?side5 ?side6 ?side7 ?side8 A28.out).mono ?_
     (case side1=>repeat (first|exact (zW HO397.out).2.2|(with_reducible refine zT ?_ _)|(with_reducible refine zU ?_ _)|(with_reducible refine zV ?_)))
     (case side2=>exact (zW HO397.out).2.1)
     (case side3=>repeat (first|exact (zW HO400.out).2.2|(with_reducible refine zT ?_ _)|(with_reducible refine zU ?_ _)|(with_reducible refine zV ?_)))
     (case side4=>exact (zW HO400.out).2.1)
     (case side5=>repeat (first|exact (zW HO403.out).2.2|(with_reducible refine zT ?_ _)|(with_reducible refine zU ?_ _)|(with_reducible refine zV ?_)))
     (case side6=>exact (zW HO403.out).2.1)
     (case side7=>repeat (first|exact (Kd.S_reads' HO406.out).2.2|(with_reducible refine zT ?_ _)|(with_reducible refine zU ?_ _)|(with_reducible refine zV ?_)))
     (case side8=>exact (Kd.S_reads' HO406.out).2.1)
     rintro e w37 ⟨v419,rfl,ho0,hb⟩
     refine ⟨_,rfl,?_⟩
     have n0_:=zm (zGb (by (with_reducible repeat (first|apply zP|apply zQ|apply zR));exact HO384.out) (zCb ho0) hb)
     have n1_:=zm (zGb (by (with_reducible repeat (first|apply zP|apply zQ|apply zR));exact HO387.out) (zCb ho0) hb)
     have n2_:=zm (zHb (by (with_reducible repeat (first|apply zP|apply zQ|apply zR));exact HO390.out) hb)
     have n3_:=zm (Kd.S_below (by (with_reducible repeat (first|apply zDb|apply zEb|apply zFb));exact HO393.out) hb)
     have n4_:=zm (zGb (by (with_reducible repeat (first|apply zP|apply zQ|apply zR));exact HO397.out) (zCb ho0) hb)
     have n5_:=zm (zGb (by (with_reducible repeat (first|apply zP|apply zQ|apply zR));exact HO400.out) (zCb ho0) hb)
     have n6_:=zm (zHb (by (with_reducible repeat (first|apply zP|apply zQ|apply zR));exact HO403.out) hb)
     have n7_:=zm (Kd.S_below (by (with_reducible repeat (first|apply zDb|apply zEb|apply zFb));exact HO406.out) hb)
     have n8_:=zm (zGb (by (with_reducible repeat (first|apply zP|apply zQ|apply zR));exact HO410.out) (zCb ho0) hb)
     have n9_:=zm (zGb (by (with_reducible repeat (first|apply zP|apply zQ|apply zR));exact HO413.out) (zCb ho0) hb)
     have n10_:=zm (zGb (by (with_reducible repeat (first|apply zP|apply zQ|apply zR));exact HO417.out) (zCb ho0) hb)
     have n11_:=zm (zZ (Kd.R_new' (Kd.R_new' (Kd.R_new' (Kd.R_new' (Kd.R_new' (Kd.R_new' (Kd.R_new' ho0 (Kd.R_lt (by (with_reducible repeat (first|apply zP|apply zQ|apply zR));exact HO384.out))) (Kd.R_lt (by (with_reducible repeat (first|apply zP|apply zQ|apply zR));exact HO387.out))) (Kd.R_lt (by (with_reducible repeat (first|apply zP|apply zQ|apply zR));exact HO397.out))) (Kd.R_lt (by (with_reducible repeat (first|apply zP|apply zQ|apply zR));exact HO400.out))) (Kd.R_lt (by (with_reducible repeat (first|apply zP|apply zQ|apply zR));exact HO410.out))) (Kd.R_lt (by (with_reducible repeat (first|apply zP|apply zQ|apply zR));exact HO413.out))) (Kd.R_lt (by (with_reducible repeat (first|apply zP|apply zQ|apply zR));exact HO417.out))) (zJ (by repeat (first|(with_reducible first|exact HB.out|apply zA|apply zB|apply zC|refine zF ?_ GE394.out|refine zF ?_ GE407.out)|exact HB.out))))
     have n12_:=zm (zL (g:=gb394) (o:=.cells #[.slice Ao9 t382.length co9,.slice Ao11 t385.length co11,.slice Ao12 t388.length co12,.slice Ao13 t391.length co13] 29 (0,0)) (by (with_reducible repeat (first|refine zH ?_ _|refine zI ?_|refine zG ?_ _));exact BK394.out) hb)
     have n13_:=zm (zL (g:=gb407) (o:=.cells #[.slice Ao16 t395.length co16,.slice Ao19 t398.length co19,.slice Ao20 t401.length co20,.slice Ao21 t404.length co21] 29 (0,0)) (by (with_reducible repeat (first|refine zH ?_ _|refine zI ?_|refine zG ?_ _));exact BK407.out) hb)
     have n14_:=zm (zK (by repeat (first|(with_reducible first|exact HB.out|apply zA|apply zB|apply zC|refine zF ?_ GE394.out|refine zF ?_ GE407.out)|exact HB.out)) hb)
     clear HO384;clear HO387;clear HO390;clear HO393;clear HO397;clear HO400;clear HO403;clear HO406;clear HO410;clear HO413;clear HO417;clear BK394;clear BK407;clear HB;have HO384:=n0_;have HO387:=n1_;have HO390:=n2_;have HO393:=n3_;have HO397:=n4_;have HO400:=n5_;have HO403:=n6_;have HO406:=n7_;have HO410:=n8_;have HO413:=n9_;have HO417:=n10_;have HO420:=n11_;have BK394:=n12_;have BK407:=n13_;have HB:=n14_;clear n0_ n1_ n2_ n3_ n4_ n5_ n6_ n7_ n8_ n9_ n10_ n11_ n12_ n13_ n14_;(try clear hb);(try clear hb2);(try clear hk);(try clear hi);(try clear ho0);obtain ⟨Ao38,co38,eo38⟩:=zAb HO417.out;(first|subst eo38|(injection eo38 with f1_ f2_ f3_;have f4_:=f1_.symm;have f5_:=f3_.symm;clear f1_ f2_ f3_;subst f4_;subst f5_))
     obtain ⟨Ao39,co39,eo39⟩:=zAb HO420.out;(first|subst eo39|(injection eo39 with f1_ f2_ f3_;have f4_:=f1_.symm;have f5_:=f3_.symm;clear f1_ f2_ f3_;subst f4_;subst f5_))
     refine hK.out _ _ ⟨(zD BK407.out 0).trans rfl,(zD BK407.out 1).trans rfl,(zD BK407.out 2).trans rfl,(zD BK407.out 3).trans rfl,(zD BK394.out 0).trans rfl,(zD BK394.out 1).trans rfl,(zD BK394.out 2).trans rfl,(zD BK394.out 3).trans rfl⟩ (fun hHeld=>?_)
     clear hK K;refine norm_ (a':=?_) ?_ ?_
     rotate_left
     ·show Act.put _ (some 25) _ = _
      simp only [Act.put,List.setIfInBounds_toArray,List.set_cons_zero,List.set_cons_succ,i64_w,i32_w]
      rfl
     refine one_ (i:=10) (N:=some 26) #[y',y',y',y',y',y',y',y',y',y',y',n',n',n',n',n',n',n',n'] rfl rfl (one_of HT_.out (by kernel_rfl)) (by decide) (fun K hK=>?_)
     refine goes_ Try.func10 (by kernel_rfl) rfl #[.slice Ao38 t415.length co38,.slice Ao39 t418.length co39] (by rfl) rfl rfl (by (try simp only [List.map_toArray,List.map_cons,List.map_nil]);first|done|rfl|(simp only [List.length_drop,List.length_take];rfl)) ?_
     with_reducible refine (laws_wInts.calls k _ _ t415 _ _ t418 true _ ?side1 ?side2 ?side3 ?side4 A29.out).mono ?_
     (case side1=>repeat (first|exact (zW HO417.out).2.2|(with_reducible refine zT ?_ _)|(with_reducible refine zU ?_ _)|(with_reducible refine zV ?_)))
     (case side2=>exact (zW HO417.out).2.1)
     (case side3=>repeat (first|exact (zW HO420.out).2.2|(with_reducible refine zT ?_ _)|(with_reducible refine zU ?_ _)|(with_reducible refine zV ?_)))
     (case side4=>exact (zW HO420.out).2.1)
     rintro e w' ⟨rfl,⟨nd,rfl⟩⟩
     refine ⟨_,rfl,?_⟩
     refine hK.out _ _ ⟨(zD BK407.out 0).trans rfl,(zD BK407.out 1).trans rfl,(zD BK407.out 2).trans rfl,(zD BK407.out 3).trans rfl,(zD BK394.out 0).trans rfl,(zD BK394.out 1).trans rfl,(zD BK394.out 2).trans rfl,(zD BK394.out 3).trans rfl⟩ (fun hHeld=>?_)
     clear hK K;refine norm_ (a':=?_) ?_ ?_
     rotate_left
     ·show Act.put _ (some 26) _ = _
      simp only [Act.put,List.setIfInBounds_toArray,List.set_cons_zero,List.set_cons_succ,i64_w,i32_w]
      rfl
     refine pure_ (i:=11) (N:=some 27) (v:=?_) (a':=?_) #[y',y',y',y',y',y',y',y',y',y',y',y',n',n',n',n',n',n',n'] rfl rfl (any_of HT_.out (by kernel_rfl)) (fun _ _ _ h=>h) (Or.inl ⟨by rfl,?_⟩) ?_ ?_
     rotate_left
     ·intro w'
      go_simp
      with_reducible rfl
     rotate_left
     ·simp only [Act.put,List.setIfInBounds_toArray,List.set_cons_zero,List.set_cons_succ,i64_w,i32_w]
      rfl
     refine pure_ (i:=12) (N:=some 28) (v:=?_) (a':=?_) #[y',y',y',y',y',y',y',y',y',y',y',y',y',n',n',n',n',n',n'] rfl rfl (any_of HT_.out (by kernel_rfl)) (fun _ _ _ h=>h) (Or.inl ⟨by rfl,?_⟩) ?_ ?_
     rotate_left
     ·intro w'
      go_simp
      with_reducible rfl
     rotate_left
     ·simp only [Act.put,List.setIfInBounds_toArray,List.set_cons_zero,List.set_cons_succ,i64_w,i32_w]
      rfl
     refine pure_ (i:=13) (N:=some 29) (v:=?_) (a':=?_) #[y',y',y',y',y',y',y',y',y',y',y',y',y',y',n',n',n',n',n'] rfl rfl (any_of HT_.out (by kernel_rfl)) (fun _ _ _ h=>h) (Or.inl ⟨by rfl,?_⟩) ?_ ?_
     rotate_left
     ·intro w'
      go_simp
      with_reducible rfl
     rotate_left
     ·simp only [Act.put,List.setIfInBounds_toArray,List.set_cons_zero,List.set_cons_succ,i64_w,i32_w]
      rfl
     refine take_ (i:=14) (N:=some 30) (v:=?_) (a':=?_) #[y',y',y',y',y',y',y',y',y',y',y',y',y',y',y',n',n',n',n'] rfl rfl (take_ofW HT_.out HW_.out (by kernel_rfl)) (fun _ _ _ h=>h) (Or.inl ⟨by rfl,?_⟩) hHeld ?_ ?_
     rotate_left
     ·rintro w' ⟨s0,s1,s2,s3,s4,s5,s6,s7⟩
      go_simp
      with_reducible rfl
     rotate_left
     ·simp only [Act.put,List.setIfInBounds_toArray,List.set_cons_zero,List.set_cons_succ,i64_w,i32_w]
      rfl
     refine take_ (i:=15) (N:=some 31) (v:=?_) (a':=?_) #[y',y',y',y',y',y',y',y',y',y',y',y',y',y',y',y',n',n',n'] rfl rfl (take_ofW HT_.out HW_.out (by kernel_rfl)) (fun _ _ _ h=>h) (Or.inl ⟨by rfl,?_⟩) hHeld ?_ ?_
     rotate_left
     ·rintro w' ⟨s0,s1,s2,s3,s4,s5,s6,s7⟩
      go_simp
      with_reducible rfl
     rotate_left
     ·simp only [Act.put,List.setIfInBounds_toArray,List.set_cons_zero,List.set_cons_succ,i64_w,i32_w]
      rfl
     refine one_ (i:=16) (N:=some 32) #[y',y',y',y',y',y',y',y',y',y',y',y',y',y',y',y',y',n',n'] rfl rfl (one_of HT_.out (by kernel_rfl)) (by decide) (fun K hK=>?_)
     refine goes_ Try.func14 (by kernel_rfl) rfl #[.agg #[.slice Ao9 t382.length co9,.slice Ao11 t385.length co11,.slice Ao12 t388.length co12,.slice Ao13 t391.length co13],.agg #[.slice Ao16 t395.length co16,.slice Ao19 t398.length co19,.slice Ao20 t401.length co20,.slice Ao21 t404.length co21]] (by rfl) rfl rfl (by (try simp only [List.map_toArray,List.map_cons,List.map_nil]);first|done|rfl|(simp only [List.length_drop,List.length_take];rfl)) ?_
     with_reducible refine (laws_wRow.calls k _ _ t382 _ _ t385 _ _ t388 _ _ t391 _ _ t395 _ _ t398 _ _ t401 _ _ t404 t422 _ ?side1 ?side2 ?side3 ?side4 ?side5 ?side6 ?side7 ?side8 ?side9 ?side10 ?side11 ?side12 ?side13 ?side14 ?side15 ?side16 A31.out).mono ?_
     (case side1=>repeat (first|exact (zW HO384.out).2.2|(with_reducible refine zT ?_ _)|(with_reducible refine zU ?_ _)|(with_reducible refine zV ?_)))
     (case side2=>exact (zW HO384.out).2.1)
     (case side3=>repeat (first|exact (zW HO387.out).2.2|(with_reducible refine zT ?_ _)|(with_reducible refine zU ?_ _)|(with_reducible refine zV ?_)))
     (case side4=>exact (zW HO387.out).2.1)
     (case side5=>repeat (first|exact (zW HO390.out).2.2|(with_reducible refine zT ?_ _)|(with_reducible refine zU ?_ _)|(with_reducible refine zV ?_)))
     (case side6=>exact (zW HO390.out).2.1)
     (case side7=>repeat (first|exact (Kd.S_reads' HO393.out).2.2|(with_reducible refine zT ?_ _)|(with_reducible refine zU ?_ _)|(with_reducible refine zV ?_)))
     (case side8=>exact (Kd.S_reads' HO393.out).2.1)
     (case side9=>repeat (first|exact (zW HO397.out).2.2|(with_reducible refine zT ?_ _)|(with_reducible refine zU ?_ _)|(with_reducible refine zV ?_)))
     (case side10=>exact (zW HO397.out).2.1)
     (case side11=>repeat (first|exact (zW HO400.out).2.2|(with_reducible refine zT ?_ _)|(with_reducible refine zU ?_ _)|(with_reducible refine zV ?_)))
     (case side12=>exact (zW HO400.out).2.1)
     (case side13=>repeat (first|exact (zW HO403.out).2.2|(with_reducible refine zT ?_ _)|(with_reducible refine zU ?_ _)|(with_reducible refine zV ?_)))
     (case side14=>exact (zW HO403.out).2.1)
     (case side15=>repeat (first|exact (Kd.S_reads' HO406.out).2.2|(with_reducible refine zT ?_ _)|(with_reducible refine zU ?_ _)|(with_reducible refine zV ?_)))
     (case side16=>exact (Kd.S_reads' HO406.out).2.1)
     rintro e w40 ⟨rfl,hb⟩
     refine ⟨_,rfl,?_⟩
     have n0_:=zm (zHb (by (with_reducible repeat (first|apply zP|apply zQ|apply zR));exact HO384.out) hb)
     have n1_:=zm (zHb (by (with_reducible repeat (first|apply zP|apply zQ|apply zR));exact HO387.out) hb)
     have n2_:=zm (zHb (by (with_reducible repeat (first|apply zP|apply zQ|apply zR));exact HO390.out) hb)
     have n3_:=zm (Kd.S_below (by (with_reducible repeat (first|apply zDb|apply zEb|apply zFb));exact HO393.out) hb)
     have n4_:=zm (zHb (by (with_reducible repeat (first|apply zP|apply zQ|apply zR));exact HO397.out) hb)
     have n5_:=zm (zHb (by (with_reducible repeat (first|apply zP|apply zQ|apply zR));exact HO400.out) hb)
     have n6_:=zm (zHb (by (with_reducible repeat (first|apply zP|apply zQ|apply zR));exact HO403.out) hb)
     have n7_:=zm (Kd.S_below (by (with_reducible repeat (first|apply zDb|apply zEb|apply zFb));exact HO406.out) hb)
     have n8_:=zm (zHb (by (with_reducible repeat (first|apply zP|apply zQ|apply zR));exact HO410.out) hb)
     have n9_:=zm (zHb (by (with_reducible repeat (first|apply zP|apply zQ|apply zR));exact HO413.out) hb)
     have n10_:=zm (zHb (by (with_reducible repeat (first|apply zP|apply zQ|apply zR));exact HO417.out) hb)
     have n11_:=zm (zHb (by (with_reducible repeat (first|apply zP|apply zQ|apply zR));exact HO420.out) hb)
     have n12_:=zm (zL (g:=gb394) (o:=.cells #[.slice Ao9 t382.length co9,.slice Ao11 t385.length co11,.slice Ao12 t388.length co12,.slice Ao13 t391.length co13] 29 (0,0)) (by (with_reducible repeat (first|refine zH ?_ _|refine zI ?_|refine zG ?_ _));exact BK394.out) hb)
     have n13_:=zm (zL (g:=gb407) (o:=.cells #[.slice Ao16 t395.length co16,.slice Ao19 t398.length co19,.slice Ao20 t401.length co20,.slice Ao21 t404.length co21] 29 (0,0)) (by (with_reducible repeat (first|refine zH ?_ _|refine zI ?_|refine zG ?_ _));exact BK407.out) hb)
     have n14_:=zm (zK (by repeat (first|(with_reducible first|exact HB.out|apply zA|apply zB|apply zC|refine zF ?_ GE394.out|refine zF ?_ GE407.out)|exact HB.out)) hb)
     clear HO384;clear HO387;clear HO390;clear HO393;clear HO397;clear HO400;clear HO403;clear HO406;clear HO410;clear HO413;clear HO417;clear HO420;clear BK394;clear BK407;clear HB;have HO384:=n0_;have HO387:=n1_;have HO390:=n2_;have HO393:=n3_;have HO397:=n4_;have HO400:=n5_;have HO403:=n6_;have HO406:=n7_;have HO410:=n8_;have HO413:=n9_;have HO417:=n10_;have HO420:=n11_;have BK394:=n12_;have BK407:=n13_;have HB:=n14_;clear n0_ n1_ n2_ n3_ n4_ n5_ n6_ n7_ n8_ n9_ n10_ n11_ n12_ n13_ n14_;(try clear hb);(try clear hb2);(try clear hk);(try clear hi);refine hK.out _ _ ⟨(zD BK407.out 0).trans rfl,(zD BK407.out 1).trans rfl,(zD BK407.out 2).trans rfl,(zD BK407.out 3).trans rfl,(zD BK394.out 0).trans rfl,(zD BK394.out 1).trans rfl,(zD BK394.out 2).trans rfl,(zD BK394.out 3).trans rfl⟩ (fun hHeld=>?_)
     clear hK K;refine norm_ (a':=?_) ?_ ?_
     rotate_left
     ·show Act.put _ (some 32) _ = _
      simp only [Act.put,List.setIfInBounds_toArray,List.set_cons_zero,List.set_cons_succ,i64_w,i32_w]
      rfl
     refine pure_ (i:=17) (N:=some 33) (v:=?_) (a':=?_) #[y',y',y',y',y',y',y',y',y',y',y',y',y',y',y',y',y',y',n'] rfl rfl (any_of HT_.out (by kernel_rfl)) (fun _ _ _ h=>h) (Or.inl ⟨by rfl,?_⟩) ?_ ?_
     rotate_left
     ·intro w'
      go_simp
      with_reducible rfl
     rotate_left
     ·simp only [Act.put,List.setIfInBounds_toArray,List.set_cons_zero,List.set_cons_succ,i64_w,i32_w]
      rfl
     refine pure_ (i:=18) (N:=some 34) (v:=?_) (a':=?_) #[y',y',y',y',y',y',y',y',y',y',y',y',y',y',y',y',y',y',y'] rfl rfl (any_of HT_.out (by kernel_rfl)) (fun _ _ _ h=>h) (Or.inl ⟨by rfl,?_⟩) ?_ ?_
     rotate_left
     ·intro w'
      go_simp
      with_reducible rfl
     rotate_left
     ·simp only [Act.put,List.setIfInBounds_toArray,List.set_cons_zero,List.set_cons_succ,i64_w,i32_w]
      rfl
     refine done_ (done_of HT_.out (by kernel_rfl)) ?_
     try go_wp2
     go_meet
     case rel=>exact ⟨_,(!t422),(by first|rfl|(simp;done)|(simp [*];done)),H',⟨by first|omega|exact Nat.le_refl _⟩,⟨by (with_reducible repeat (first|apply zP|apply zQ|apply zR));exact zS HO410.out (fun _ hk=>⟨hk.1.1.1.1.1.1.2,⟨hk.1.1.1.1.1.2,⟨hk.1.1.1.1.2,hk.1.1.1.2⟩⟩⟩)⟩,⟨by (with_reducible repeat (first|apply zP|apply zQ|apply zR));exact zS HO384.out (fun _ hk=>⟨hk.1.1.1.2,⟨hk.1.1.1.1.1.1,⟨hk.1.1.1.1.1.2,hk.1.1.1.1.2⟩⟩⟩)⟩,⟨by (with_reducible repeat (first|apply zP|apply zQ|apply zR));exact zS HO387.out (fun _ hk=>⟨hk.1.1.1.2,⟨hk.1.1.1.1.1.1,⟨hk.1.1.1.1.1.2,hk.1.1.1.1.2⟩⟩⟩)⟩,⟨by (with_reducible repeat (first|apply zP|apply zQ|apply zR));exact zS HO390.out (fun _ hk=>hk.2)⟩,⟨by (with_reducible repeat (first|apply zDb|apply zEb|apply zFb));exact Kd.S_mono HO393.out (fun _ hk=>⟨hk.1.1,⟨hk.1.2,hk.2⟩⟩)⟩,⟨by (with_reducible repeat (first|apply zP|apply zQ|apply zR));exact zS HO397.out (fun _ hk=>⟨hk.1.1.1.2,⟨hk.1.1.1.1.1.2,⟨hk.1.1.1.1.2,hk.1.1.1.1.1.1⟩⟩⟩)⟩,⟨by (with_reducible repeat (first|apply zP|apply zQ|apply zR));exact zS HO400.out (fun _ hk=>⟨hk.1.1.1.2,⟨hk.1.1.1.1.1.2,⟨hk.1.1.1.1.2,hk.1.1.1.1.1.1⟩⟩⟩)⟩,⟨by (with_reducible repeat (first|apply zP|apply zQ|apply zR));exact zS HO403.out (fun _ hk=>hk.2)⟩,⟨by (with_reducible repeat (first|apply zDb|apply zEb|apply zFb));exact Kd.S_mono HO406.out (fun _ hk=>⟨hk.1.2,⟨hk.2,hk.1.1⟩⟩)⟩,⟨by (with_reducible repeat (first|refine zH ?_ _|refine zI ?_|refine zG ?_ _));exact BK394.out⟩,⟨by (with_reducible repeat (first|refine zH ?_ _|refine zI ?_|refine zG ?_ _));exact BK407.out⟩,⟨by repeat (first|(with_reducible first|exact HB.out|apply zA|apply zB|apply zC|refine zF ?_ GE394.out|refine zF ?_ GE407.out)|exact HB.out)⟩⟩
    ·replace c30:=Bool.eq_false_iff.mpr c30;subst c30
     have H1 : (laws_FnTop.j0 k t408 true t382 t385 t388 t391 t395 t398 t401 t404) = some r:=by rw [if_neg (show ¬ (false = true) by decide)] at H;exact H
     clear H;have H:=H1;clear H1;have H':=zm H;clear H;try go_wp2
     have n0_:=zm (zR HO384.out);have n1_:=zm (zR HO387.out);have n2_:=zm (zR HO390.out);have n3_:=zm (zFb HO393.out);have n4_:=zm (zR HO397.out);have n5_:=zm (zR HO400.out);have n6_:=zm (zR HO403.out);have n7_:=zm (zFb HO406.out);have n8_:=zm (zR HO410.out);have n9_:=zm (zI BK394.out);have n10_:=zm (zI BK407.out);have n11_:=zm (zC HB.out);clear HO384;clear HO387;clear HO390;clear HO393;clear HO397;clear HO400;clear HO403;clear HO406;clear HO410;clear BK394;clear BK407;clear HB;have HO384:=n0_;have HO387:=n1_;have HO390:=n2_;have HO393:=n3_;have HO397:=n4_;have HO400:=n5_;have HO403:=n6_;have HO406:=n7_;have HO410:=n8_;have BK394:=n9_;have BK407:=n10_;have HB:=n11_;clear n0_ n1_ n2_ n3_ n4_ n5_ n6_ n7_ n8_ n9_ n10_ n11_;refine start_ (n:=19) (S:=fun w'=>w'.cell? ⟨gb407,0,none⟩ = some (.slice Ao16 t395.length co16)∧w'.cell? ⟨gb407,1,none⟩ = some (.slice Ao19 t398.length co19)∧w'.cell? ⟨gb407,2,none⟩ = some (.slice Ao20 t401.length co20)∧w'.cell? ⟨gb407,3,none⟩ = some (.slice Ao21 t404.length co21)∧w'.cell? ⟨gb394,0,none⟩ = some (.slice Ao9 t382.length co9)∧w'.cell? ⟨gb394,1,none⟩ = some (.slice Ao11 t385.length co11)∧w'.cell? ⟨gb394,2,none⟩ = some (.slice Ao12 t388.length co12)∧w'.cell? ⟨gb394,3,none⟩ = some (.slice Ao13 t391.length co13)) (ds:=[]) #[n',n',n',n',n',n',n',n',n',n',n',n',n',n',n',n',n',n',n'] (by kernel_rfl) rfl rfl ⟨(zD BK407.out 0).trans rfl,(zD BK407.out 1).trans rfl,(zD BK407.out 2).trans rfl,(zD BK407.out 3).trans rfl,(zD BK394.out 0).trans rfl,(zD BK394.out 1).trans rfl,(zD BK394.out 2).trans rfl,(zD BK394.out 3).trans rfl⟩ (fun hHeld=>?_);refine with_tabW laws_FnTop.tab6 laws_FnTop.bits6 (fun HT_ HW_=>?_)
     generalize w23.drew = w41 at HO384 HO387 HO390 HO393 HO397 HO400 HO403 HO406 HO410 BK394 BK407 HB hHeld ⊢
     refine pure_ (i:=0) (N:=some 16) (v:=?_) (a':=?_) #[y',n',n',n',n',n',n',n',n',n',n',n',n',n',n',n',n',n',n'] rfl rfl (any_of HT_.out (by kernel_rfl)) (fun _ _ _ h=>h) (Or.inl ⟨by rfl,?_⟩) ?_ ?_
     rotate_left
     ·intro w'
      go_simp
      with_reducible rfl
     rotate_left
     ·simp only [Act.put,List.setIfInBounds_toArray,List.set_cons_zero,List.set_cons_succ,i64_w,i32_w]
      rfl
     refine take_ (i:=1) (N:=some 17) (v:=?_) (a':=?_) #[y',y',n',n',n',n',n',n',n',n',n',n',n',n',n',n',n',n',n'] rfl rfl (take_ofW HT_.out HW_.out (by kernel_rfl)) (fun _ _ _ h=>h) (Or.inl ⟨by rfl,?_⟩) hHeld ?_ ?_
     rotate_left
     ·rintro w' ⟨s0,s1,s2,s3,s4,s5,s6,s7⟩
      go_simp
      with_reducible rfl
     rotate_left
     ·simp only [Act.put,List.setIfInBounds_toArray,List.set_cons_zero,List.set_cons_succ,i64_w,i32_w]
      rfl
     refine one_ (i:=2) (N:=some 18) #[y',y',y',n',n',n',n',n',n',n',n',n',n',n',n',n',n',n',n'] rfl rfl (one_of HT_.out (by kernel_rfl)) (by decide) (fun K hK=>?_)
     refine goes_ Try.func11 (by kernel_rfl) rfl #[.agg #[.slice Ao16 t395.length co16,.slice Ao19 t398.length co19,.slice Ao20 t401.length co20,.slice Ao21 t404.length co21]] (by rfl) rfl rfl (by (try simp only [List.map_toArray,List.map_cons,List.map_nil]);first|done|rfl|(simp only [List.length_drop,List.length_take];rfl)) ?_
     with_reducible refine (spec_Shows.calls k _ _ t395 _ _ t398 _ _ t401 _ _ t404 t411 _ ?side1 ?side2 ?side3 ?side4 ?side5 ?side6 ?side7 ?side8 A24.out).mono ?_
     (case side1=>repeat (first|exact (zW HO397.out).2.2|(with_reducible refine zT ?_ _)|(with_reducible refine zU ?_ _)|(with_reducible refine zV ?_)))
     (case side2=>exact (zW HO397.out).2.1)
     (case side3=>repeat (first|exact (zW HO400.out).2.2|(with_reducible refine zT ?_ _)|(with_reducible refine zU ?_ _)|(with_reducible refine zV ?_)))
     (case side4=>exact (zW HO400.out).2.1)
     (case side5=>repeat (first|exact (zW HO403.out).2.2|(with_reducible refine zT ?_ _)|(with_reducible refine zU ?_ _)|(with_reducible refine zV ?_)))
     (case side6=>exact (zW HO403.out).2.1)
     (case side7=>repeat (first|exact (Kd.S_reads' HO406.out).2.2|(with_reducible refine zT ?_ _)|(with_reducible refine zU ?_ _)|(with_reducible refine zV ?_)))
     (case side8=>exact (Kd.S_reads' HO406.out).2.1)
     rintro e w42 ⟨v412,rfl,ho0,hb⟩
     refine ⟨_,rfl,?_⟩
     have n0_:=zm (zGb (by (with_reducible repeat (first|apply zP|apply zQ|apply zR));exact HO384.out) (zCb ho0) hb)
     have n1_:=zm (zGb (by (with_reducible repeat (first|apply zP|apply zQ|apply zR));exact HO387.out) (zCb ho0) hb)
     have n2_:=zm (zHb (by (with_reducible repeat (first|apply zP|apply zQ|apply zR));exact HO390.out) hb)
     have n3_:=zm (Kd.S_below (by (with_reducible repeat (first|apply zDb|apply zEb|apply zFb));exact HO393.out) hb)
     have n4_:=zm (zGb (by (with_reducible repeat (first|apply zP|apply zQ|apply zR));exact HO397.out) (zCb ho0) hb)
     have n5_:=zm (zGb (by (with_reducible repeat (first|apply zP|apply zQ|apply zR));exact HO400.out) (zCb ho0) hb)
     have n6_:=zm (zHb (by (with_reducible repeat (first|apply zP|apply zQ|apply zR));exact HO403.out) hb)
     have n7_:=zm (Kd.S_below (by (with_reducible repeat (first|apply zDb|apply zEb|apply zFb));exact HO406.out) hb)
     have n8_:=zm (zGb (by (with_reducible repeat (first|apply zP|apply zQ|apply zR));exact HO410.out) (zCb ho0) hb)
     have n9_:=zm (zZ (Kd.R_new' (Kd.R_new' (Kd.R_new' (Kd.R_new' (Kd.R_new' ho0 (Kd.R_lt (by (with_reducible repeat (first|apply zP|apply zQ|apply zR));exact HO384.out))) (Kd.R_lt (by (with_reducible repeat (first|apply zP|apply zQ|apply zR));exact HO387.out))) (Kd.R_lt (by (with_reducible repeat (first|apply zP|apply zQ|apply zR));exact HO397.out))) (Kd.R_lt (by (with_reducible repeat (first|apply zP|apply zQ|apply zR));exact HO400.out))) (Kd.R_lt (by (with_reducible repeat (first|apply zP|apply zQ|apply zR));exact HO410.out))) (zJ (by repeat (first|(with_reducible first|exact HB.out|apply zA|apply zB|apply zC|refine zF ?_ GE394.out|refine zF ?_ GE407.out)|exact HB.out))))
     have n10_:=zm (zL (g:=gb394) (o:=.cells #[.slice Ao9 t382.length co9,.slice Ao11 t385.length co11,.slice Ao12 t388.length co12,.slice Ao13 t391.length co13] 29 (0,0)) (by (with_reducible repeat (first|refine zH ?_ _|refine zI ?_|refine zG ?_ _));exact BK394.out) hb)
     have n11_:=zm (zL (g:=gb407) (o:=.cells #[.slice Ao16 t395.length co16,.slice Ao19 t398.length co19,.slice Ao20 t401.length co20,.slice Ao21 t404.length co21] 29 (0,0)) (by (with_reducible repeat (first|refine zH ?_ _|refine zI ?_|refine zG ?_ _));exact BK407.out) hb)
     have n12_:=zm (zK (by repeat (first|(with_reducible first|exact HB.out|apply zA|apply zB|apply zC|refine zF ?_ GE394.out|refine zF ?_ GE407.out)|exact HB.out)) hb)
     clear HO384;clear HO387;clear HO390;clear HO393;clear HO397;clear HO400;clear HO403;clear HO406;clear HO410;clear BK394;clear BK407;clear HB;have HO384:=n0_;have HO387:=n1_;have HO390:=n2_;have HO393:=n3_;have HO397:=n4_;have HO400:=n5_;have HO403:=n6_;have HO406:=n7_;have HO410:=n8_;have HO413:=n9_;have BK394:=n10_;have BK407:=n11_;have HB:=n12_;clear n0_ n1_ n2_ n3_ n4_ n5_ n6_ n7_ n8_ n9_ n10_ n11_ n12_;(try clear hb);(try clear hb2);(try clear hk);(try clear hi);(try clear ho0);obtain ⟨Ao43,co43,eo43⟩:=zAb HO410.out;(first|subst eo43|(injection eo43 with f1_ f2_ f3_;have f4_:=f1_.symm;have f5_:=f3_.symm;clear f1_ f2_ f3_;subst f4_;subst f5_))
     obtain ⟨Ao44,co44,eo44⟩:=zAb HO413.out;(first|subst eo44|(injection eo44 with f1_ f2_ f3_;have f4_:=f1_.symm;have f5_:=f3_.symm;clear f1_ f2_ f3_;subst f4_;subst f5_))
     refine hK.out _ _ ⟨(zD BK407.out 0).trans rfl,(zD BK407.out 1).trans rfl,(zD BK407.out 2).trans rfl,(zD BK407.out 3).trans rfl,(zD BK394.out 0).trans rfl,(zD BK394.out 1).trans rfl,(zD BK394.out 2).trans rfl,(zD BK394.out 3).trans rfl⟩ (fun hHeld=>?_)
     clear hK K;refine norm_ (a':=?_) ?_ ?_
     rotate_left
     ·show Act.put _ (some 18) _ = _
      simp only [Act.put,List.setIfInBounds_toArray,List.set_cons_zero,List.set_cons_succ,i64_w,i32_w]
      rfl
     refine one_ (i:=3) (N:=some 19) #[y',y',y',y',n',n',n',n',n',n',n',n',n',n',n',n',n',n',n'] rfl rfl (one_of HT_.out (by kernel_rfl)) (by decide) (fun K hK=>?_)
     refine goes_ Try.func10 (by kernel_rfl) rfl #[.slice Ao43 t408.length co43,.slice Ao44 t411.length co44] (by rfl) rfl rfl (by (try simp only [List.map_toArray,List.map_cons,List.map_nil]);first|done|rfl|(simp only [List.length_drop,List.length_take];rfl)) ?_
     with_reducible refine (laws_wInts.calls k _ _ t408 _ _ t411 true _ ?side1 ?side2 ?side3 ?side4 A25.out).mono ?_
     (case side1=>repeat (first|exact (zW HO410.out).2.2|(with_reducible refine zT ?_ _)|(with_reducible refine zU ?_ _)|(with_reducible refine zV ?_)))
     (case side2=>exact (zW HO410.out).2.1)
     (case side3=>repeat (first|exact (zW HO413.out).2.2|(with_reducible refine zT ?_ _)|(with_reducible refine zU ?_ _)|(with_reducible refine zV ?_)))
     (case side4=>exact (zW HO413.out).2.1)
     rintro e w' ⟨rfl,⟨nd,rfl⟩⟩
     refine ⟨_,rfl,?_⟩
     refine hK.out _ _ ⟨(zD BK407.out 0).trans rfl,(zD BK407.out 1).trans rfl,(zD BK407.out 2).trans rfl,(zD BK407.out 3).trans rfl,(zD BK394.out 0).trans rfl,(zD BK394.out 1).trans rfl,(zD BK394.out 2).trans rfl,(zD BK394.out 3).trans rfl⟩ (fun hHeld=>?_)
     clear hK K;refine norm_ (a':=?_) ?_ ?_
     rotate_left
     ·show Act.put _ (some 19) _ = _
      simp only [Act.put,List.setIfInBounds_toArray,List.set_cons_zero,List.set_cons_succ,i64_w,i32_w]
      rfl
     refine pure_ (i:=4) (N:=some 20) (v:=?_) (a':=?_) #[y',y',y',y',y',n',n',n',n',n',n',n',n',n',n',n',n',n',n'] rfl rfl (any_of HT_.out (by kernel_rfl)) (fun _ _ _ h=>h) (Or.inl ⟨by rfl,?_⟩) ?_ ?_
     rotate_left
     ·intro w'
      go_simp
      with_reducible rfl
     rotate_left
     ·simp only [Act.put,List.setIfInBounds_toArray,List.set_cons_zero,List.set_cons_succ,i64_w,i32_w]
      rfl
     refine pure_ (i:=5) (N:=some 21) (v:=?_) (a':=?_) #[y',y',y',y',y',y',n',n',n',n',n',n',n',n',n',n',n',n',n'] rfl rfl (any_of HT_.out (by kernel_rfl)) (fun _ _ _ h=>h) (Or.inl ⟨by rfl,?_⟩) ?_ ?_
     rotate_left
     ·intro w'
      go_simp
      with_reducible rfl
     rotate_left
     ·simp only [Act.put,List.setIfInBounds_toArray,List.set_cons_zero,List.set_cons_succ,i64_w,i32_w]
      rfl
     refine take_ (i:=6) (N:=some 22) (v:=?_) (a':=?_) #[y',y',y',y',y',y',y',n',n',n',n',n',n',n',n',n',n',n',n'] rfl rfl (take_ofW HT_.out HW_.out (by kernel_rfl)) (fun _ _ _ h=>h) (Or.inl ⟨by rfl,?_⟩) hHeld ?_ ?_
     rotate_left
     ·rintro w' ⟨s0,s1,s2,s3,s4,s5,s6,s7⟩
      go_simp
      with_reducible rfl
     rotate_left
     ·simp only [Act.put,List.setIfInBounds_toArray,List.set_cons_zero,List.set_cons_succ,i64_w,i32_w]
      rfl
     refine take_ (i:=8) (N:=some 24) (v:=?_) (a':=?_) #[y',y',y',y',y',y',y',n',y',n',n',n',n',n',n',n',n',n',n'] rfl rfl (take_ofW HT_.out HW_.out (by kernel_rfl)) (fun _ _ _ h=>h) (Or.inl ⟨by rfl,?_⟩) hHeld ?_ ?_
     rotate_left
     ·rintro w' ⟨s0,s1,s2,s3,s4,s5,s6,s7⟩
      go_simp
      with_reducible rfl
     rotate_left
     ·simp only [Act.put,List.setIfInBounds_toArray,List.set_cons_zero,List.set_cons_succ,i64_w,i32_w]
      rfl
     refine one_ (i:=7) (N:=some 23) #[y',y',y',y',y',y',y',y',y',n',n',n',n',n',n',n',n',n',n'] rfl rfl (one_of HT_.out (by kernel_rfl)) (by decide) (fun K hK=>?_)
     refine goes_ Try.func12 (by kernel_rfl) rfl #[.agg #[.slice Ao9 t382.length co9,.slice Ao11 t385.length co11,.slice Ao12 t388.length co12,.slice Ao13 t391.length co13]] (by rfl) rfl rfl (by (try simp only [List.map_toArray,List.map_cons,List.map_nil]);first|done|rfl|(simp only [List.length_drop,List.length_take];rfl)) ?_
     with_reducible refine (impl_Wants.calls k _ _ t382 _ _ t385 _ _ t388 _ _ t391 t415 _ ?side1 ?side2 ?side3 ?side4 ?side5 ?side6 ?side7 ?side8 A27.out).mono ?_
     (case side1=>repeat (first|exact (zW HO384.out).2.2|(with_reducible refine zT ?_ _)|(with_reducible refine zU ?_ _)|(with_reducible refine zV ?_)))
     (case side2=>exact (zW HO384.out).2.1)
     (case side3=>repeat (first|exact (zW HO387.out).2.2|(with_reducible refine zT ?_ _)|(with_reducible refine zU ?_ _)|(with_reducible refine zV ?_)))
     (case side4=>exact (zW HO387.out).2.1)
     (case side5=>repeat (first|exact (zW HO390.out).2.2|(with_reducible refine zT ?_ _)|(with_reducible refine zU ?_ _)|(with_reducible refine zV ?_)))
     (case side6=>exact (zW HO390.out).2.1)
     (case side7=>repeat (first|exact (Kd.S_reads' HO393.out).2.2|(with_reducible refine zT ?_ _)|(with_reducible refine zU ?_ _)|(with_reducible refine zV ?_)))
     (case side8=>exact (Kd.S_reads' HO393.out).2.1)
     rintro e w45 ⟨v416,rfl,ho0,hb⟩
     refine ⟨_,rfl,?_⟩
     have n0_:=zm (zGb (by (with_reducible repeat (first|apply zP|apply zQ|apply zR));exact HO384.out) (zCb ho0) hb)
     have n1_:=zm (zGb (by (with_reducible repeat (first|apply zP|apply zQ|apply zR));exact HO387.out) (zCb ho0) hb)
     have n2_:=zm (zHb (by (with_reducible repeat (first|apply zP|apply zQ|apply zR));exact HO390.out) hb)
     have n3_:=zm (Kd.S_below (by (with_reducible repeat (first|apply zDb|apply zEb|apply zFb));exact HO393.out) hb)
     have n4_:=zm (zGb (by (with_reducible repeat (first|apply zP|apply zQ|apply zR));exact HO397.out) (zCb ho0) hb)
     have n5_:=zm (zGb (by (with_reducible repeat (first|apply zP|apply zQ|apply zR));exact HO400.out) (zCb ho0) hb)
     have n6_:=zm (zHb (by (with_reducible repeat (first|apply zP|apply zQ|apply zR));exact HO403.out) hb)
     have n7_:=zm (Kd.S_below (by (with_reducible repeat (first|apply zDb|apply zEb|apply zFb));exact HO406.out) hb)
     have n8_:=zm (zGb (by (with_reducible repeat (first|apply zP|apply zQ|apply zR));exact HO410.out) (zCb ho0) hb)
     have n9_:=zm (zGb (by (with_reducible repeat (first|apply zP|apply zQ|apply zR));exact HO413.out) (zCb ho0) hb)
     have n10_:=zm (zZ (Kd.R_new' (Kd.R_new' (Kd.R_new' (Kd.R_new' (Kd.R_new' (Kd.R_new' ho0 (Kd.R_lt (by (with_reducible repeat (first|apply zP|apply zQ|apply zR));exact HO384.out))) (Kd.R_lt (by (with_reducible repeat (first|apply zP|apply zQ|apply zR));exact HO387.out))) (Kd.R_lt (by (with_reducible repeat (first|apply zP|apply zQ|apply zR));exact HO397.out))) (Kd.R_lt (by (with_reducible repeat (first|apply zP|apply zQ|apply zR));exact HO400.out))) (Kd.R_lt (by (with_reducible repeat (first|apply zP|apply zQ|apply zR));exact HO410.out))) (Kd.R_lt (by (with_reducible repeat (first|apply zP|apply zQ|apply zR));exact HO413.out))) (zJ (by repeat (first|(with_reducible first|exact HB.out|apply zA|apply zB|apply zC|refine zF ?_ GE394.out|refine zF ?_ GE407.out)|exact HB.out))))
     have n11_:=zm (zL (g:=gb394) (o:=.cells #[.slice Ao9 t382.length co9,.slice Ao11 t385.length co11,.slice Ao12 t388.length co12,.slice Ao13 t391.length co13] 29 (0,0)) (by (with_reducible repeat (first|refine zH ?_ _|refine zI ?_|refine zG ?_ _));exact BK394.out) hb)
     have n12_:=zm (zL (g:=gb407) (o:=.cells #[.slice Ao16 t395.length co16,.slice Ao19 t398.length co19,.slice Ao20 t401.length co20,.slice Ao21 t404.length co21] 29 (0,0)) (by (with_reducible repeat (first|refine zH ?_ _|refine zI ?_|refine zG ?_ _));exact BK407.out) hb)
     have n13_:=zm (zK (by repeat (first|(with_reducible first|exact HB.out|apply zA|apply zB|apply zC|refine zF ?_ GE394.out|refine zF ?_ GE407.out)|exact HB.out)) hb)
     clear HO384;clear HO387;clear HO390;clear HO393;clear HO397;clear HO400;clear HO403;clear HO406;clear HO410;clear HO413;clear BK394;clear BK407;clear HB;have HO384:=n0_;have HO387:=n1_;have HO390:=n2_;have HO393:=n3_;have HO397:=n4_;have HO400:=n5_;have HO403:=n6_;have HO406:=n7_;have HO410:=n8_;have HO413:=n9_;have HO417:=n10_;have BK394:=n11_;have BK407:=n12_;have HB:=n13_;clear n0_ n1_ n2_ n3_ n4_ n5_ n6_ n7_ n8_ n9_ n10_ n11_ n12_ n13_;(try clear hb);(try clear hb2);(try clear hk);(try clear hi);(try clear ho0);refine hK.out _ _ ⟨(zD BK407.out 0).trans rfl,(zD BK407.out 1).trans rfl,(zD BK407.out 2).trans rfl,(zD BK407.out 3).trans rfl,(zD BK394.out 0).trans rfl,(zD BK394.out 1).trans rfl,(zD BK394.out 2).trans rfl,(zD BK394.out 3).trans rfl⟩ (fun hHeld=>?_)
     clear hK K;refine norm_ (a':=?_) ?_ ?_
     rotate_left
     ·show Act.put _ (some 23) _ = _
      simp only [Act.put,List.setIfInBounds_toArray,List.set_cons_zero,List.set_cons_succ,i64_w,i32_w]
      rfl
     refine one_ (i:=9) (N:=some 25) #[y',y',y',y',y',y',y',y',y',y',n',n',n',n',n',n',n',n',n'] rfl rfl (one_of HT_.out (by kernel_rfl)) (by decide) (fun K hK=>?_)
     refine goes_ Try.func13 (by kernel_rfl) rfl #[.agg #[.slice Ao16 t395.length co16,.slice Ao19 t398.length co19,.slice Ao20 t401.length co20,.slice Ao21 t404.length co21]] (by rfl) rfl rfl (by (try simp only [List.map_toArray,List.map_cons,List.map_nil]);first|done|rfl|(simp only [List.length_drop,List.length_take];rfl)) ?_
     with_reducible refine (spec_Wants.calls k _ _ t395 _ _ t398 _ _ t401 _ _ t404 t418 _ ?side1 ?side2 ?side3 ?side4 ?side5 ?side6 ?side7 ?side8 A28.out).mono ?_
     (case side1=>repeat (first|exact (zW HO397.out).2.2|(with_reducible refine zT ?_ _)|(with_reducible refine zU ?_ _)|(with_reducible refine zV ?_)))
     (case side2=>exact (zW HO397.out).2.1)
     (case side3=>repeat (first|exact (zW HO400.out).2.2|(with_reducible refine zT ?_ _)|(with_reducible refine zU ?_ _)|(with_reducible refine zV ?_)))
     (case side4=>exact (zW HO400.out).2.1)
     (case side5=>repeat (first|exact (zW HO403.out).2.2|(with_reducible refine zT ?_ _)|(with_reducible refine zU ?_ _)|(with_reducible refine zV ?_)))
     (case side6=>exact (zW HO403.out).2.1)
     (case side7=>repeat (first|exact (Kd.S_reads' HO406.out).2.2|(with_reducible refine zT ?_ _)|(with_reducible refine zU ?_ _)|(with_reducible refine zV ?_)))
     (case side8=>exact (Kd.S_reads' HO406.out).2.1)
     rintro e w46 ⟨v419,rfl,ho0,hb⟩
     refine ⟨_,rfl,?_⟩
     have n0_:=zm (zGb (by (with_reducible repeat (first|apply zP|apply zQ|apply zR));exact HO384.out) (zCb ho0) hb)
     have n1_:=zm (zGb (by (with_reducible repeat (first|apply zP|apply zQ|apply zR));exact HO387.out) (zCb ho0) hb)
     have n2_:=zm (zHb (by (with_reducible repeat (first|apply zP|apply zQ|apply zR));exact HO390.out) hb)
     have n3_:=zm (Kd.S_below (by (with_reducible repeat (first|apply zDb|apply zEb|apply zFb));exact HO393.out) hb)
     have n4_:=zm (zGb (by (with_reducible repeat (first|apply zP|apply zQ|apply zR));exact HO397.out) (zCb ho0) hb)
     have n5_:=zm (zGb (by (with_reducible repeat (first|apply zP|apply zQ|apply zR));exact HO400.out) (zCb ho0) hb)
     have n6_:=zm (zHb (by (with_reducible repeat (first|apply zP|apply zQ|apply zR));exact HO403.out) hb)
     have n7_:=zm (Kd.S_below (by (with_reducible repeat (first|apply zDb|apply zEb|apply zFb));exact HO406.out) hb)
     have n8_:=zm (zGb (by (with_reducible repeat (first|apply zP|apply zQ|apply zR));exact HO410.out) (zCb ho0) hb)
     have n9_:=zm (zGb (by (with_reducible repeat (first|apply zP|apply zQ|apply zR));exact HO413.out) (zCb ho0) hb)
     have n10_:=zm (zGb (by (with_reducible repeat (first|apply zP|apply zQ|apply zR));exact HO417.out) (zCb ho0) hb)
     have n11_:=zm (zZ (Kd.R_new' (Kd.R_new' (Kd.R_new' (Kd.R_new' (Kd.R_new' (Kd.R_new' (Kd.R_new' ho0 (Kd.R_lt (by (with_reducible repeat (first|apply zP|apply zQ|apply zR));exact HO384.out))) (Kd.R_lt (by (with_reducible repeat (first|apply zP|apply zQ|apply zR));exact HO387.out))) (Kd.R_lt (by (with_reducible repeat (first|apply zP|apply zQ|apply zR));exact HO397.out))) (Kd.R_lt (by (with_reducible repeat (first|apply zP|apply zQ|apply zR));exact HO400.out))) (Kd.R_lt (by (with_reducible repeat (first|apply zP|apply zQ|apply zR));exact HO410.out))) (Kd.R_lt (by (with_reducible repeat (first|apply zP|apply zQ|apply zR));exact HO413.out))) (Kd.R_lt (by (with_reducible repeat (first|apply zP|apply zQ|apply zR));exact HO417.out))) (zJ (by repeat (first|(with_reducible first|exact HB.out|apply zA|apply zB|apply zC|refine zF ?_ GE394.out|refine zF ?_ GE407.out)|exact HB.out))))
     have n12_:=zm (zL (g:=gb394) (o:=.cells #[.slice Ao9 t382.length co9,.slice Ao11 t385.length co11,.slice Ao12 t388.length co12,.slice Ao13 t391.length co13] 29 (0,0)) (by (with_reducible repeat (first|refine zH ?_ _|refine zI ?_|refine zG ?_ _));exact BK394.out) hb)
     have n13_:=zm (zL (g:=gb407) (o:=.cells #[.slice Ao16 t395.length co16,.slice Ao19 t398.length co19,.slice Ao20 t401.length co20,.slice Ao21 t404.length co21] 29 (0,0)) (by (with_reducible repeat (first|refine zH ?_ _|refine zI ?_|refine zG ?_ _));exact BK407.out) hb)
     have n14_:=zm (zK (by repeat (first|(with_reducible first|exact HB.out|apply zA|apply zB|apply zC|refine zF ?_ GE394.out|refine zF ?_ GE407.out)|exact HB.out)) hb)
     clear HO384;clear HO387;clear HO390;clear HO393;clear HO397;clear HO400;clear HO403;clear HO406;clear HO410;clear HO413;clear HO417;clear BK394;clear BK407;clear HB;have HO384:=n0_;have HO387:=n1_;have HO390:=n2_;have HO393:=n3_;have HO397:=n4_;have HO400:=n5_;have HO403:=n6_;have HO406:=n7_;have HO410:=n8_;have HO413:=n9_;have HO417:=n10_;have HO420:=n11_;have BK394:=n12_;have BK407:=n13_;have HB:=n14_;clear n0_ n1_ n2_ n3_ n4_ n5_ n6_ n7_ n8_ n9_ n10_ n11_ n12_ n13_ n14_;(try clear hb);(try clear hb2);(try clear hk);(try clear hi);(try clear ho0);obtain ⟨Ao47,co47,eo47⟩:=zAb HO417.out;(first|subst eo47|(injection eo47 with f1_ f2_ f3_;have f4_:=f1_.symm;have f5_:=f3_.symm;clear f1_ f2_ f3_;subst f4_;subst f5_))
     obtain ⟨Ao48,co48,eo48⟩:=zAb HO420.out;(first|subst eo48|(injection eo48 with f1_ f2_ f3_;have f4_:=f1_.symm;have f5_:=f3_.symm;clear f1_ f2_ f3_;subst f4_;subst f5_))
     refine hK.out _ _ ⟨(zD BK407.out 0).trans rfl,(zD BK407.out 1).trans rfl,(zD BK407.out 2).trans rfl,(zD BK407.out 3).trans rfl,(zD BK394.out 0).trans rfl,(zD BK394.out 1).trans rfl,(zD BK394.out 2).trans rfl,(zD BK394.out 3).trans rfl⟩ (fun hHeld=>?_)
     clear hK K;refine norm_ (a':=?_) ?_ ?_
     rotate_left
     ·show Act.put _ (some 25) _ = _
      simp only [Act.put,List.setIfInBounds_toArray,List.set_cons_zero,List.set_cons_succ,i64_w,i32_w]
      rfl
     refine one_ (i:=10) (N:=some 26) #[y',y',y',y',y',y',y',y',y',y',y',n',n',n',n',n',n',n',n'] rfl rfl (one_of HT_.out (by kernel_rfl)) (by decide) (fun K hK=>?_)
     refine goes_ Try.func10 (by kernel_rfl) rfl #[.slice Ao47 t415.length co47,.slice Ao48 t418.length co48] (by rfl) rfl rfl (by (try simp only [List.map_toArray,List.map_cons,List.map_nil]);first|done|rfl|(simp only [List.length_drop,List.length_take];rfl)) ?_
     with_reducible refine (laws_wInts.calls k _ _ t415 _ _ t418 false _ ?side1 ?side2 ?side3 ?side4 A29.out).mono ?_
     (case side1=>repeat (first|exact (zW HO417.out).2.2|(with_reducible refine zT ?_ _)|(with_reducible refine zU ?_ _)|(with_reducible refine zV ?_)))
     (case side2=>exact (zW HO417.out).2.1)
     (case side3=>repeat (first|exact (zW HO420.out).2.2|(with_reducible refine zT ?_ _)|(with_reducible refine zU ?_ _)|(with_reducible refine zV ?_)))
     (case side4=>exact (zW HO420.out).2.1)
     rintro e w' ⟨rfl,⟨nd,rfl⟩⟩
     refine ⟨_,rfl,?_⟩
     refine hK.out _ _ ⟨(zD BK407.out 0).trans rfl,(zD BK407.out 1).trans rfl,(zD BK407.out 2).trans rfl,(zD BK407.out 3).trans rfl,(zD BK394.out 0).trans rfl,(zD BK394.out 1).trans rfl,(zD BK394.out 2).trans rfl,(zD BK394.out 3).trans rfl⟩ (fun hHeld=>?_)
     clear hK K;refine norm_ (a':=?_) ?_ ?_
     rotate_left
     ·show Act.put _ (some 26) _ = _
      simp only [Act.put,List.setIfInBounds_toArray,List.set_cons_zero,List.set_cons_succ,i64_w,i32_w]
      rfl
     refine pure_ (i:=11) (N:=some 27) (v:=?_) (a':=?_) #[y',y',y',y',y',y',y',y',y',y',y',y',n',n',n',n',n',n',n'] rfl rfl (any_of HT_.out (by kernel_rfl)) (fun _ _ _ h=>h) (Or.inl ⟨by rfl,?_⟩) ?_ ?_
     rotate_left
     ·intro w'
      go_simp
      with_reducible rfl
     rotate_left
     ·simp only [Act.put,List.setIfInBounds_toArray,List.set_cons_zero,List.set_cons_succ,i64_w,i32_w]
      rfl
     refine pure_ (i:=12) (N:=some 28) (v:=?_) (a':=?_) #[y',y',y',y',y',y',y',y',y',y',y',y',y',n',n',n',n',n',n'] rfl rfl (any_of HT_.out (by kernel_rfl)) (fun _ _ _ h=>h) (Or.inl ⟨by rfl,?_⟩) ?_ ?_
     rotate_left
     ·intro w'
      go_simp
      with_reducible rfl
     rotate_left
     ·simp only [Act.put,List.setIfInBounds_toArray,List.set_cons_zero,List.set_cons_succ,i64_w,i32_w]
      rfl
     refine pure_ (i:=13) (N:=some 29) (v:=?_) (a':=?_) #[y',y',y',y',y',y',y',y',y',y',y',y',y',y',n',n',n',n',n'] rfl rfl (any_of HT_.out (by kernel_rfl)) (fun _ _ _ h=>h) (Or.inl ⟨by rfl,?_⟩) ?_ ?_
     rotate_left
     ·intro w'
      go_simp
      with_reducible rfl
     rotate_left
     ·simp only [Act.put,List.setIfInBounds_toArray,List.set_cons_zero,List.set_cons_succ,i64_w,i32_w]
      rfl
     refine pure_ (i:=14) (N:=some 30) (v:=undef) (a':=?_) #[y',y',y',y',y',y',y',y',y',y',y',y',y',y',y',n',n',n',n'] rfl rfl (any_of HT_.out (by kernel_rfl)) (fun _ _ _ h=>h) (Or.inr ⟨by rfl,rfl⟩) ?_ ?_
     rotate_left
     ·simp only [Act.put,List.setIfInBounds_toArray,List.set_cons_zero,List.set_cons_succ,i64_w,i32_w]
      rfl
     refine pure_ (i:=15) (N:=some 31) (v:=undef) (a':=?_) #[y',y',y',y',y',y',y',y',y',y',y',y',y',y',y',y',n',n',n'] rfl rfl (any_of HT_.out (by kernel_rfl)) (fun _ _ _ h=>h) (Or.inr ⟨by rfl,rfl⟩) ?_ ?_
     rotate_left
     ·simp only [Act.put,List.setIfInBounds_toArray,List.set_cons_zero,List.set_cons_succ,i64_w,i32_w]
      rfl
     refine pure_ (i:=16) (N:=some 32) (v:=undef) (a':=?_) #[y',y',y',y',y',y',y',y',y',y',y',y',y',y',y',y',y',n',n'] rfl rfl (any_of HT_.out (by kernel_rfl)) (fun _ _ _ h=>h) (Or.inr ⟨by rfl,rfl⟩) ?_ ?_
     rotate_left
     ·simp only [Act.put,List.setIfInBounds_toArray,List.set_cons_zero,List.set_cons_succ,i64_w,i32_w]
      rfl
     refine pure_ (i:=17) (N:=some 33) (v:=undef) (a':=?_) #[y',y',y',y',y',y',y',y',y',y',y',y',y',y',y',y',y',y',n'] rfl rfl (any_of HT_.out (by kernel_rfl)) (fun _ _ _ h=>h) (Or.inr ⟨by rfl,rfl⟩) ?_ ?_
     rotate_left
     ·simp only [Act.put,List.setIfInBounds_toArray,List.set_cons_zero,List.set_cons_succ,i64_w,i32_w]
      rfl
     refine pure_ (i:=18) (N:=some 34) (v:=?_) (a':=?_) #[y',y',y',y',y',y',y',y',y',y',y',y',y',y',y',y',y',y',y'] rfl rfl (any_of HT_.out (by kernel_rfl)) (fun _ _ _ h=>h) (Or.inl ⟨by rfl,?_⟩) ?_ ?_
     rotate_left
     ·intro w'
      go_simp
      with_reducible rfl
     rotate_left
     ·simp only [Act.put,List.setIfInBounds_toArray,List.set_cons_zero,List.set_cons_succ,i64_w,i32_w]
      rfl
     refine done_ (done_of HT_.out (by kernel_rfl)) ?_
     try go_wp2
     go_meet
     case rel=>exact ⟨_,(true),(by first|rfl|(simp;done)|(simp [*];done)),H',⟨by first|omega|exact Nat.le_refl _⟩,⟨by (with_reducible repeat (first|apply zP|apply zQ|apply zR));exact zS HO410.out (fun _ hk=>⟨hk.1.1.1.1.1.1.2,⟨hk.1.1.1.1.1.2,⟨hk.1.1.1.1.2,hk.1.1.1.2⟩⟩⟩)⟩,⟨by (with_reducible repeat (first|apply zP|apply zQ|apply zR));exact zS HO384.out (fun _ hk=>⟨hk.1.1.1.2,⟨hk.1.1.1.1.1.1,⟨hk.1.1.1.1.1.2,hk.1.1.1.1.2⟩⟩⟩)⟩,⟨by (with_reducible repeat (first|apply zP|apply zQ|apply zR));exact zS HO387.out (fun _ hk=>⟨hk.1.1.1.2,⟨hk.1.1.1.1.1.1,⟨hk.1.1.1.1.1.2,hk.1.1.1.1.2⟩⟩⟩)⟩,⟨by (with_reducible repeat (first|apply zP|apply zQ|apply zR));exact zS HO390.out (fun _ hk=>hk.2)⟩,⟨by (with_reducible repeat (first|apply zDb|apply zEb|apply zFb));exact Kd.S_mono HO393.out (fun _ hk=>⟨hk.1.1,⟨hk.1.2,hk.2⟩⟩)⟩,⟨by (with_reducible repeat (first|apply zP|apply zQ|apply zR));exact zS HO397.out (fun _ hk=>⟨hk.1.1.1.2,⟨hk.1.1.1.1.1.2,⟨hk.1.1.1.1.2,hk.1.1.1.1.1.1⟩⟩⟩)⟩,⟨by (with_reducible repeat (first|apply zP|apply zQ|apply zR));exact zS HO400.out (fun _ hk=>⟨hk.1.1.1.2,⟨hk.1.1.1.1.1.2,⟨hk.1.1.1.1.2,hk.1.1.1.1.1.1⟩⟩⟩)⟩,⟨by (with_reducible repeat (first|apply zP|apply zQ|apply zR));exact zS HO403.out (fun _ hk=>hk.2)⟩,⟨by (with_reducible repeat (first|apply zDb|apply zEb|apply zFb));exact Kd.S_mono HO406.out (fun _ hk=>⟨hk.1.2,⟨hk.2,hk.1.1⟩⟩)⟩,⟨by (with_reducible repeat (first|refine zH ?_ _|refine zI ?_|refine zG ?_ _));exact BK394.out⟩,⟨by (with_reducible repeat (first|refine zH ?_ _|refine zI ?_|refine zG ?_ _));exact BK407.out⟩,⟨by repeat (first|(with_reducible first|exact HB.out|apply zA|apply zB|apply zC|refine zF ?_ GE394.out|refine zF ?_ GE407.out)|exact HB.out)⟩⟩
   ·replace c26:=Bool.eq_false_iff.mpr c26;subst c26
    have H1 : (laws_FnTop.j0 k t408 true t382 t385 t388 t391 t395 t398 t401 t404) = some r:=by rw [if_neg (show ¬ (false = true) by decide)] at H;exact H
    clear H;have H:=H1;clear H1;have H':=zm H;clear H;try go_wp2
    have n0_:=zm (zR HO384.out);have n1_:=zm (zR HO387.out);have n2_:=zm (zR HO390.out);have n3_:=zm (zFb HO393.out);have n4_:=zm (zR HO397.out);have n5_:=zm (zR HO400.out);have n6_:=zm (zR HO403.out);have n7_:=zm (zFb HO406.out);have n8_:=zm (zR HO410.out);have n9_:=zm (zI BK394.out);have n10_:=zm (zI BK407.out);have n11_:=zm (zC HB.out);clear HO384;clear HO387;clear HO390;clear HO393;clear HO397;clear HO400;clear HO403;clear HO406;clear HO410;clear BK394;clear BK407;clear HB;have HO384:=n0_;have HO387:=n1_;have HO390:=n2_;have HO393:=n3_;have HO397:=n4_;have HO400:=n5_;have HO403:=n6_;have HO406:=n7_;have HO410:=n8_;have BK394:=n9_;have BK407:=n10_;have HB:=n11_;clear n0_ n1_ n2_ n3_ n4_ n5_ n6_ n7_ n8_ n9_ n10_ n11_;refine start_ (n:=19) (S:=fun w'=>w'.cell? ⟨gb407,0,none⟩ = some (.slice Ao16 t395.length co16)∧w'.cell? ⟨gb407,1,none⟩ = some (.slice Ao19 t398.length co19)∧w'.cell? ⟨gb407,2,none⟩ = some (.slice Ao20 t401.length co20)∧w'.cell? ⟨gb407,3,none⟩ = some (.slice Ao21 t404.length co21)) (ds:=[]) #[n',n',n',n',n',n',n',n',n',n',n',n',n',n',n',n',n',n',n'] (by kernel_rfl) rfl rfl ⟨(zD BK407.out 0).trans rfl,(zD BK407.out 1).trans rfl,(zD BK407.out 2).trans rfl,(zD BK407.out 3).trans rfl⟩ (fun hHeld=>?_);refine with_tabW laws_FnTop.tab6 laws_FnTop.bits6 (fun HT_ HW_=>?_)
    generalize w23.drew = w49 at HO384 HO387 HO390 HO393 HO397 HO400 HO403 HO406 HO410 BK394 BK407 HB hHeld ⊢
    refine pure_ (i:=0) (N:=some 16) (v:=?_) (a':=?_) #[y',n',n',n',n',n',n',n',n',n',n',n',n',n',n',n',n',n',n'] rfl rfl (any_of HT_.out (by kernel_rfl)) (fun _ _ _ h=>h) (Or.inl ⟨by rfl,?_⟩) ?_ ?_
    rotate_left
    ·intro w'
     go_simp
     with_reducible rfl
    rotate_left
    ·simp only [Act.put,List.setIfInBounds_toArray,List.set_cons_zero,List.set_cons_succ,i64_w,i32_w]
     rfl
    refine take_ (i:=1) (N:=some 17) (v:=?_) (a':=?_) #[y',y',n',n',n',n',n',n',n',n',n',n',n',n',n',n',n',n',n'] rfl rfl (take_ofW HT_.out HW_.out (by kernel_rfl)) (fun _ _ _ h=>h) (Or.inl ⟨by rfl,?_⟩) hHeld ?_ ?_
    rotate_left
    ·rintro w' ⟨s0,s1,s2,s3⟩
     go_simp
     with_reducible rfl
    rotate_left
    ·simp only [Act.put,List.setIfInBounds_toArray,List.set_cons_zero,List.set_cons_succ,i64_w,i32_w]
     rfl
    refine one_ (i:=2) (N:=some 18) #[y',y',y',n',n',n',n',n',n',n',n',n',n',n',n',n',n',n',n'] rfl rfl (one_of HT_.out (by kernel_rfl)) (by decide) (fun K hK=>?_)
    refine goes_ Try.func11 (by kernel_rfl) rfl #[.agg #[.slice Ao16 t395.length co16,.slice Ao19 t398.length co19,.slice Ao20 t401.length co20,.slice Ao21 t404.length co21]] (by rfl) rfl rfl (by (try simp only [List.map_toArray,List.map_cons,List.map_nil]);first|done|rfl|(simp only [List.length_drop,List.length_take];rfl)) ?_
    with_reducible refine (spec_Shows.calls k _ _ t395 _ _ t398 _ _ t401 _ _ t404 t411 _ ?side1 ?side2 ?side3 ?side4 ?side5 ?side6 ?side7 ?side8 A24.out).mono ?_
    (case side1=>repeat (first|exact (zW HO397.out).2.2|(with_reducible refine zT ?_ _)|(with_reducible refine zU ?_ _)|(with_reducible refine zV ?_)))
    (case side2=>exact (zW HO397.out).2.1)
    (case side3=>repeat (first|exact (zW HO400.out).2.2|(with_reducible refine zT ?_ _)|(with_reducible refine zU ?_ _)|(with_reducible refine zV ?_)))
    (case side4=>exact (zW HO400.out).2.1)
    (case side5=>repeat (first|exact (zW HO403.out).2.2|(with_reducible refine zT ?_ _)|(with_reducible refine zU ?_ _)|(with_reducible refine zV ?_)))
    (case side6=>exact (zW HO403.out).2.1)
    (case side7=>repeat (first|exact (Kd.S_reads' HO406.out).2.2|(with_reducible refine zT ?_ _)|(with_reducible refine zU ?_ _)|(with_reducible refine zV ?_)))
    (case side8=>exact (Kd.S_reads' HO406.out).2.1)
    rintro e w50 ⟨v412,rfl,ho0,hb⟩
    refine ⟨_,rfl,?_⟩
    have n0_:=zm (zGb (by (with_reducible repeat (first|apply zP|apply zQ|apply zR));exact HO384.out) (zCb ho0) hb)
    have n1_:=zm (zGb (by (with_reducible repeat (first|apply zP|apply zQ|apply zR));exact HO387.out) (zCb ho0) hb)
    have n2_:=zm (zHb (by (with_reducible repeat (first|apply zP|apply zQ|apply zR));exact HO390.out) hb)
    have n3_:=zm (Kd.S_below (by (with_reducible repeat (first|apply zDb|apply zEb|apply zFb));exact HO393.out) hb)
    have n4_:=zm (zGb (by (with_reducible repeat (first|apply zP|apply zQ|apply zR));exact HO397.out) (zCb ho0) hb)
    have n5_:=zm (zGb (by (with_reducible repeat (first|apply zP|apply zQ|apply zR));exact HO400.out) (zCb ho0) hb)
    have n6_:=zm (zHb (by (with_reducible repeat (first|apply zP|apply zQ|apply zR));exact HO403.out) hb)
    have n7_:=zm (Kd.S_below (by (with_reducible repeat (first|apply zDb|apply zEb|apply zFb));exact HO406.out) hb)
    have n8_:=zm (zGb (by (with_reducible repeat (first|apply zP|apply zQ|apply zR));exact HO410.out) (zCb ho0) hb)
    have n9_:=zm (zZ (Kd.R_new' (Kd.R_new' (Kd.R_new' (Kd.R_new' (Kd.R_new' ho0 (Kd.R_lt (by (with_reducible repeat (first|apply zP|apply zQ|apply zR));exact HO384.out))) (Kd.R_lt (by (with_reducible repeat (first|apply zP|apply zQ|apply zR));exact HO387.out))) (Kd.R_lt (by (with_reducible repeat (first|apply zP|apply zQ|apply zR));exact HO397.out))) (Kd.R_lt (by (with_reducible repeat (first|apply zP|apply zQ|apply zR));exact HO400.out))) (Kd.R_lt (by (with_reducible repeat (first|apply zP|apply zQ|apply zR));exact HO410.out))) (zJ (by repeat (first|(with_reducible first|exact HB.out|apply zA|apply zB|apply zC|refine zF ?_ GE394.out|refine zF ?_ GE407.out)|exact HB.out))))
    have n10_:=zm (zL (g:=gb394) (o:=.cells #[.slice Ao9 t382.length co9,.slice Ao11 t385.length co11,.slice Ao12 t388.length co12,.slice Ao13 t391.length co13] 29 (0,0)) (by (with_reducible repeat (first|refine zH ?_ _|refine zI ?_|refine zG ?_ _));exact BK394.out) hb)
    have n11_:=zm (zL (g:=gb407) (o:=.cells #[.slice Ao16 t395.length co16,.slice Ao19 t398.length co19,.slice Ao20 t401.length co20,.slice Ao21 t404.length co21] 29 (0,0)) (by (with_reducible repeat (first|refine zH ?_ _|refine zI ?_|refine zG ?_ _));exact BK407.out) hb)
    have n12_:=zm (zK (by repeat (first|(with_reducible first|exact HB.out|apply zA|apply zB|apply zC|refine zF ?_ GE394.out|refine zF ?_ GE407.out)|exact HB.out)) hb)
    clear HO384;clear HO387;clear HO390;clear HO393;clear HO397;clear HO400;clear HO403;clear HO406;clear HO410;clear BK394;clear BK407;clear HB;have HO384:=n0_;have HO387:=n1_;have HO390:=n2_;have HO393:=n3_;have HO397:=n4_;have HO400:=n5_;have HO403:=n6_;have HO406:=n7_;have HO410:=n8_;have HO413:=n9_;have BK394:=n10_;have BK407:=n11_;have HB:=n12_;clear n0_ n1_ n2_ n3_ n4_ n5_ n6_ n7_ n8_ n9_ n10_ n11_ n12_;(try clear hb);(try clear hb2);(try clear hk);(try clear hi);(try clear ho0);obtain ⟨Ao51,co51,eo51⟩:=zAb HO410.out;(first|subst eo51|(injection eo51 with f1_ f2_ f3_;have f4_:=f1_.symm;have f5_:=f3_.symm;clear f1_ f2_ f3_;subst f4_;subst f5_))
    obtain ⟨Ao52,co52,eo52⟩:=zAb HO413.out;(first|subst eo52|(injection eo52 with f1_ f2_ f3_;have f4_:=f1_.symm;have f5_:=f3_.symm;clear f1_ f2_ f3_;subst f4_;subst f5_))
    refine hK.out _ _ ⟨(zD BK407.out 0).trans rfl,(zD BK407.out 1).trans rfl,(zD BK407.out 2).trans rfl,(zD BK407.out 3).trans rfl⟩ (fun hHeld=>?_)
    clear hK K;refine norm_ (a':=?_) ?_ ?_
    rotate_left
    ·show Act.put _ (some 18) _ = _
     simp only [Act.put,List.setIfInBounds_toArray,List.set_cons_zero,List.set_cons_succ,i64_w,i32_w]
     rfl
    refine one_ (i:=3) (N:=some 19) #[y',y',y',y',n',n',n',n',n',n',n',n',n',n',n',n',n',n',n'] rfl rfl (one_of HT_.out (by kernel_rfl)) (by decide) (fun K hK=>?_)
    refine goes_ Try.func10 (by kernel_rfl) rfl #[.slice Ao51 t408.length co51,.slice Ao52 t411.length co52] (by rfl) rfl rfl (by (try simp only [List.map_toArray,List.map_cons,List.map_nil]);first|done|rfl|(simp only [List.length_drop,List.length_take];rfl)) ?_
    with_reducible refine (laws_wInts.calls k _ _ t408 _ _ t411 false _ ?side1 ?side2 ?side3 ?side4 A25.out).mono ?_
    (case side1=>repeat (first|exact (zW HO410.out).2.2|(with_reducible refine zT ?_ _)|(with_reducible refine zU ?_ _)|(with_reducible refine zV ?_)))
    (case side2=>exact (zW HO410.out).2.1)
    (case side3=>repeat (first|exact (zW HO413.out).2.2|(with_reducible refine zT ?_ _)|(with_reducible refine zU ?_ _)|(with_reducible refine zV ?_)))
    (case side4=>exact (zW HO413.out).2.1)
    rintro e w' ⟨rfl,⟨nd,rfl⟩⟩
    refine ⟨_,rfl,?_⟩
    refine hK.out _ _ ⟨(zD BK407.out 0).trans rfl,(zD BK407.out 1).trans rfl,(zD BK407.out 2).trans rfl,(zD BK407.out 3).trans rfl⟩ (fun hHeld=>?_)
    clear hK K;refine norm_ (a':=?_) ?_ ?_
    rotate_left
    ·show Act.put _ (some 19) _ = _
     simp only [Act.put,List.setIfInBounds_toArray,List.set_cons_zero,List.set_cons_succ,i64_w,i32_w]
     rfl
    refine pure_ (i:=4) (N:=some 20) (v:=?_) (a':=?_) #[y',y',y',y',y',n',n',n',n',n',n',n',n',n',n',n',n',n',n'] rfl rfl (any_of HT_.out (by kernel_rfl)) (fun _ _ _ h=>h) (Or.inl ⟨by rfl,?_⟩) ?_ ?_
    rotate_left
    ·intro w'
     go_simp
     with_reducible rfl
    rotate_left
    ·simp only [Act.put,List.setIfInBounds_toArray,List.set_cons_zero,List.set_cons_succ,i64_w,i32_w]
     rfl
    refine pure_ (i:=5) (N:=some 21) (v:=?_) (a':=?_) #[y',y',y',y',y',y',n',n',n',n',n',n',n',n',n',n',n',n',n'] rfl rfl (any_of HT_.out (by kernel_rfl)) (fun _ _ _ h=>h) (Or.inl ⟨by rfl,?_⟩) ?_ ?_
    rotate_left
    ·intro w'
     go_simp
     with_reducible rfl
    rotate_left
    ·simp only [Act.put,List.setIfInBounds_toArray,List.set_cons_zero,List.set_cons_succ,i64_w,i32_w]
     rfl
    refine pure_ (i:=6) (N:=some 22) (v:=undef) (a':=?_) #[y',y',y',y',y',y',y',n',n',n',n',n',n',n',n',n',n',n',n'] rfl rfl (any_of HT_.out (by kernel_rfl)) (fun _ _ _ h=>h) (Or.inr ⟨by rfl,rfl⟩) ?_ ?_
    rotate_left
    ·simp only [Act.put,List.setIfInBounds_toArray,List.set_cons_zero,List.set_cons_succ,i64_w,i32_w]
     rfl
    refine pure_ (i:=7) (N:=some 23) (v:=undef) (a':=?_) #[y',y',y',y',y',y',y',y',n',n',n',n',n',n',n',n',n',n',n'] rfl rfl (any_of HT_.out (by kernel_rfl)) (fun _ _ _ h=>h) (Or.inr ⟨by rfl,rfl⟩) ?_ ?_
    rotate_left
    ·simp only [Act.put,List.setIfInBounds_toArray,List.set_cons_zero,List.set_cons_succ,i64_w,i32_w]
     rfl
    refine pure_ (i:=8) (N:=some 24) (v:=undef) (a':=?_) #[y',y',y',y',y',y',y',y',y',n',n',n',n',n',n',n',n',n',n'] rfl rfl (any_of HT_.out (by kernel_rfl)) (fun _ _ _ h=>h) (Or.inr ⟨by rfl,rfl⟩) ?_ ?_
    rotate_left
    ·simp only [Act.put,List.setIfInBounds_toArray,List.set_cons_zero,List.set_cons_succ,i64_w,i32_w]
     rfl
    refine pure_ (i:=9) (N:=some 25) (v:=undef) (a':=?_) #[y',y',y',y',y',y',y',y',y',y',n',n',n',n',n',n',n',n',n'] rfl rfl (any_of HT_.out (by kernel_rfl)) (fun _ _ _ h=>h) (Or.inr ⟨by rfl,rfl⟩) ?_ ?_
    rotate_left
    ·simp only [Act.put,List.setIfInBounds_toArray,List.set_cons_zero,List.set_cons_succ,i64_w,i32_w]
     rfl
    refine pure_ (i:=10) (N:=some 26) (v:=undef) (a':=?_) #[y',y',y',y',y',y',y',y',y',y',y',n',n',n',n',n',n',n',n'] rfl rfl (any_of HT_.out (by kernel_rfl)) (fun _ _ _ h=>h) (Or.inr ⟨by rfl,rfl⟩) ?_ ?_
    rotate_left
    ·simp only [Act.put,List.setIfInBounds_toArray,List.set_cons_zero,List.set_cons_succ,i64_w,i32_w]
     rfl
    refine pure_ (i:=11) (N:=some 27) (v:=undef) (a':=?_) #[y',y',y',y',y',y',y',y',y',y',y',y',n',n',n',n',n',n',n'] rfl rfl (any_of HT_.out (by kernel_rfl)) (fun _ _ _ h=>h) (Or.inr ⟨by rfl,rfl⟩) ?_ ?_
    rotate_left
    ·simp only [Act.put,List.setIfInBounds_toArray,List.set_cons_zero,List.set_cons_succ,i64_w,i32_w]
     rfl
    refine pure_ (i:=12) (N:=some 28) (v:=?_) (a':=?_) #[y',y',y',y',y',y',y',y',y',y',y',y',y',n',n',n',n',n',n'] rfl rfl (any_of HT_.out (by kernel_rfl)) (fun _ _ _ h=>h) (Or.inl ⟨by rfl,?_⟩) ?_ ?_
    rotate_left
    ·intro w'
     go_simp
     with_reducible rfl
    rotate_left
    ·simp only [Act.put,List.setIfInBounds_toArray,List.set_cons_zero,List.set_cons_succ,i64_w,i32_w]
     rfl
    refine pure_ (i:=13) (N:=some 29) (v:=?_) (a':=?_) #[y',y',y',y',y',y',y',y',y',y',y',y',y',y',n',n',n',n',n'] rfl rfl (any_of HT_.out (by kernel_rfl)) (fun _ _ _ h=>h) (Or.inl ⟨by rfl,?_⟩) ?_ ?_
    rotate_left
    ·intro w'
     go_simp
     with_reducible rfl
    rotate_left
    ·simp only [Act.put,List.setIfInBounds_toArray,List.set_cons_zero,List.set_cons_succ,i64_w,i32_w]
     rfl
    refine pure_ (i:=14) (N:=some 30) (v:=undef) (a':=?_) #[y',y',y',y',y',y',y',y',y',y',y',y',y',y',y',n',n',n',n'] rfl rfl (any_of HT_.out (by kernel_rfl)) (fun _ _ _ h=>h) (Or.inr ⟨by rfl,rfl⟩) ?_ ?_
    rotate_left
    ·simp only [Act.put,List.setIfInBounds_toArray,List.set_cons_zero,List.set_cons_succ,i64_w,i32_w]
     rfl
    refine pure_ (i:=15) (N:=some 31) (v:=undef) (a':=?_) #[y',y',y',y',y',y',y',y',y',y',y',y',y',y',y',y',n',n',n'] rfl rfl (any_of HT_.out (by kernel_rfl)) (fun _ _ _ h=>h) (Or.inr ⟨by rfl,rfl⟩) ?_ ?_
    rotate_left
    ·simp only [Act.put,List.setIfInBounds_toArray,List.set_cons_zero,List.set_cons_succ,i64_w,i32_w]
     rfl
    refine pure_ (i:=16) (N:=some 32) (v:=undef) (a':=?_) #[y',y',y',y',y',y',y',y',y',y',y',y',y',y',y',y',y',n',n'] rfl rfl (any_of HT_.out (by kernel_rfl)) (fun _ _ _ h=>h) (Or.inr ⟨by rfl,rfl⟩) ?_ ?_
    rotate_left
    ·simp only [Act.put,List.setIfInBounds_toArray,List.set_cons_zero,List.set_cons_succ,i64_w,i32_w]
     rfl
    refine pure_ (i:=17) (N:=some 33) (v:=undef) (a':=?_) #[y',y',y',y',y',y',y',y',y',y',y',y',y',y',y',y',y',y',n'] rfl rfl (any_of HT_.out (by kernel_rfl)) (fun _ _ _ h=>h) (Or.inr ⟨by rfl,rfl⟩) ?_ ?_
    rotate_left
    ·simp only [Act.put,List.setIfInBounds_toArray,List.set_cons_zero,List.set_cons_succ,i64_w,i32_w]
     rfl
    refine pure_ (i:=18) (N:=some 34) (v:=?_) (a':=?_) #[y',y',y',y',y',y',y',y',y',y',y',y',y',y',y',y',y',y',y'] rfl rfl (any_of HT_.out (by kernel_rfl)) (fun _ _ _ h=>h) (Or.inl ⟨by rfl,?_⟩) ?_ ?_
    rotate_left
    ·intro w'
     go_simp
     with_reducible rfl
    rotate_left
    ·simp only [Act.put,List.setIfInBounds_toArray,List.set_cons_zero,List.set_cons_succ,i64_w,i32_w]
     rfl
    refine done_ (done_of HT_.out (by kernel_rfl)) ?_
    try go_wp2
    go_meet
    case rel=>exact ⟨_,(true),(by first|rfl|(simp;done)|(simp [*];done)),H',⟨by first|omega|exact Nat.le_refl _⟩,⟨by (with_reducible repeat (first|apply zP|apply zQ|apply zR));exact zS HO410.out (fun _ hk=>⟨hk.1.1.1.1.2,⟨hk.1.1.1.2,⟨hk.1.1.2,hk.1.2⟩⟩⟩)⟩,⟨by (with_reducible repeat (first|apply zP|apply zQ|apply zR));exact zS HO384.out (fun _ hk=>⟨hk.1.2,⟨hk.1.1.1.1,⟨hk.1.1.1.2,hk.1.1.2⟩⟩⟩)⟩,⟨by (with_reducible repeat (first|apply zP|apply zQ|apply zR));exact zS HO387.out (fun _ hk=>⟨hk.1.2,⟨hk.1.1.1.1,⟨hk.1.1.1.2,hk.1.1.2⟩⟩⟩)⟩,⟨by (with_reducible repeat (first|apply zP|apply zQ|apply zR));exact zS HO390.out (fun _ hk=>hk.2)⟩,⟨by (with_reducible repeat (first|apply zDb|apply zEb|apply zFb));exact Kd.S_mono HO393.out (fun _ hk=>⟨hk.1.1,⟨hk.1.2,hk.2⟩⟩)⟩,⟨by (with_reducible repeat (first|apply zP|apply zQ|apply zR));exact zS HO397.out (fun _ hk=>⟨hk.1.2,⟨hk.1.1.1.2,⟨hk.1.1.2,hk.1.1.1.1⟩⟩⟩)⟩,⟨by (with_reducible repeat (first|apply zP|apply zQ|apply zR));exact zS HO400.out (fun _ hk=>⟨hk.1.2,⟨hk.1.1.1.2,⟨hk.1.1.2,hk.1.1.1.1⟩⟩⟩)⟩,⟨by (with_reducible repeat (first|apply zP|apply zQ|apply zR));exact zS HO403.out (fun _ hk=>hk.2)⟩,⟨by (with_reducible repeat (first|apply zDb|apply zEb|apply zFb));exact Kd.S_mono HO406.out (fun _ hk=>⟨hk.1.2,⟨hk.2,hk.1.1⟩⟩)⟩,⟨by (with_reducible repeat (first|refine zH ?_ _|refine zI ?_|refine zG ?_ _));exact BK394.out⟩,⟨by (with_reducible repeat (first|refine zH ?_ _|refine zI ?_|refine zG ?_ _));exact BK407.out⟩,⟨by repeat (first|(with_reducible first|exact HB.out|apply zA|apply zB|apply zC|refine zF ?_ GE394.out|refine zF ?_ GE407.out)|exact HB.out)⟩⟩
  case rest =>
   clear HC6;(try clear c1);(try clear c2);(try clear p2);(try clear c10);(try clear c11);(try clear c12);(try clear c13);(try clear c26);obtain ⟨kq,x34_5,rfl,HA,HJ5,HO_5,HO_395000,HO_395001,HO_395002,HO_395003,HO_408000,HO_408001,HO_408002,HO_408003,BK394,BK407,HB⟩:=hcut;cases kq with
   | zero=>exact absurd HA.out (by simp [laws_FnTop.j0])
   | succ kj5 =>
    have H:=HA.out;clear HA;simp only [laws_FnTop.j0] at H
    by_cases c53 : x34_5 = true
    ·subst c53
     have H1 : (some false) = some r:=by rw [if_pos rfl] at H;exact H
     clear H;have H:=H1;clear H1;obtain rfl:=Option.some.inj H;go_wp2;go_ret
     exact ⟨by first|rfl|(simp [errW_none,errW_some] <;> rfl)|(simp [*,errW_none,errW_some] <;> rfl),by repeat (first|(with_reducible first|exact HB.out|apply zA|apply zB|apply zC|refine zF ?_ GE394.out|refine zF ?_ GE407.out)|exact HB.out)⟩
    ·replace c53:=Bool.eq_false_iff.mpr c53;subst c53
     have H1 : (laws_FnTop.l0 kj5 t408 (t408.length : Int) 0 t382 t385 t388 t391 t395 t398 t401 t404) = some r:=by rw [if_neg (show ¬ (false = true) by decide)] at H;exact H
     clear H;have H:=H1;clear H1;have H':=zm H;clear H;obtain ⟨Ao54,co54,eo54⟩:=zAb HO_5.out;subst eo54
     go_wp2;go_loopg [37] kj5 (fun kq v37 w'=>∃ (x5_2 : List Int) (x37_2 : Int),v37 = .int .i64 x37_2∧Aside0 (laws_FnTop.l0 kq x5_2 (t408.length : Int) x37_2 t382 t385 t388 t391 t395 t398 t401 t404 = some r)∧Aside0 (kq ≤ kj5)∧Aside0 (Kd.R (Kd.int .i64) 3 w' w.heap.size (fun k_=>some k_ ≠ ((.slice Ao9 t382.length co9) : Value).ownBlock∧some k_ ≠ ((.slice Ao11 t385.length co11) : Value).ownBlock∧some k_ ≠ ((.slice Ao16 t395.length co16) : Value).ownBlock∧some k_ ≠ ((.slice Ao19 t398.length co19) : Value).ownBlock) (.slice Ao54 t408.length co54) x5_2)∧Aside0 (Kd.R (Kd.int .i64) 3 w' w.heap.size (fun k_=>some k_ ≠ ((.slice Ao54 t408.length co54) : Value).ownBlock∧some k_ ≠ ((.slice Ao11 t385.length co11) : Value).ownBlock∧some k_ ≠ ((.slice Ao16 t395.length co16) : Value).ownBlock∧some k_ ≠ ((.slice Ao19 t398.length co19) : Value).ownBlock) (.slice Ao9 t382.length co9) t382)∧Aside0 (Kd.R (Kd.int .i64) 3 w' w.heap.size (fun k_=>some k_ ≠ ((.slice Ao54 t408.length co54) : Value).ownBlock∧some k_ ≠ ((.slice Ao9 t382.length co9) : Value).ownBlock∧some k_ ≠ ((.slice Ao16 t395.length co16) : Value).ownBlock∧some k_ ≠ ((.slice Ao19 t398.length co19) : Value).ownBlock) (.slice Ao11 t385.length co11) t385)∧Aside0 (Kd.R Kd.bool 4 w' w.heap.size (fun k_=>some k_ ≠ ((.slice Ao20 t401.length co20) : Value).ownBlock) (.slice Ao12 t388.length co12) t388)∧Aside0 (Kd.S (Kd.slice 4 Kd.bool) 26 w' w.heap.size (fun k_=>some k_ ≠ ((.slice Ao12 t388.length co12) : Value).ownBlock∧some k_ ≠ ((.slice Ao20 t401.length co20) : Value).ownBlock∧some k_ ≠ ((.slice Ao21 t404.length co21) : Value).ownBlock) (.slice Ao13 t391.length co13) t391)∧Aside0 (Kd.R (Kd.int .i64) 3 w' w.heap.size (fun k_=>some k_ ≠ ((.slice Ao54 t408.length co54) : Value).ownBlock∧some k_ ≠ ((.slice Ao9 t382.length co9) : Value).ownBlock∧some k_ ≠ ((.slice Ao11 t385.length co11) : Value).ownBlock∧some k_ ≠ ((.slice Ao19 t398.length co19) : Value).ownBlock) (.slice Ao16 t395.length co16) t395)∧Aside0 (Kd.R (Kd.int .i64) 3 w' w.heap.size (fun k_=>some k_ ≠ ((.slice Ao54 t408.length co54) : Value).ownBlock∧some k_ ≠ ((.slice Ao9 t382.length co9) : Value).ownBlock∧some k_ ≠ ((.slice Ao11 t385.length co11) : Value).ownBlock∧some k_ ≠ ((.slice Ao16 t395.length co16) : Value).ownBlock) (.slice Ao19 t398.length co19) t398)∧Aside0 (Kd.R Kd.bool 4 w' w.heap.size (fun k_=>some k_ ≠ ((.slice Ao12 t388.length co12) : Value).ownBlock) (.slice Ao20 t401.length co20) t401)∧Aside0 (Kd.S (Kd.slice 4 Kd.bool) 26 w' w.heap.size (fun k_=>some k_ ≠ ((.slice Ao12 t388.length co12) : Value).ownBlock∧some k_ ≠ ((.slice Ao13 t391.length co13) : Value).ownBlock∧some k_ ≠ ((.slice Ao20 t401.length co20) : Value).ownBlock) (.slice Ao21 t404.length co21) t404)∧Aside0 (w'.heap[gb394]? = some (.cells #[(.slice Ao9 t382.length co9),(.slice Ao11 t385.length co11),(.slice Ao12 t388.length co12),(.slice Ao13 t391.length co13)] 29 (0,0)))∧Aside0 (w'.heap[gb407]? = some (.cells #[(.slice Ao16 t395.length co16),(.slice Ao19 t398.length co19),(.slice Ao20 t401.length co20),(.slice Ao21 t404.length co21)] 29 (0,0)))∧Aside0 (Below w.heap.size w w'))
     case atStart=>exact ⟨(t408),(0),(by first|rfl|(simp;done)|(simp [*];done)),H',⟨Nat.le_refl _⟩,⟨by (with_reducible repeat (first|apply zP|apply zQ|apply zR));exact HO_5.out⟩,⟨by (with_reducible repeat (first|apply zP|apply zQ|apply zR));exact HO_395000.out⟩,⟨by (with_reducible repeat (first|apply zP|apply zQ|apply zR));exact HO_395001.out⟩,⟨by (with_reducible repeat (first|apply zP|apply zQ|apply zR));exact HO_395002.out⟩,⟨by (with_reducible repeat (first|apply zDb|apply zEb|apply zFb));exact HO_395003.out⟩,⟨by (with_reducible repeat (first|apply zP|apply zQ|apply zR));exact HO_408000.out⟩,⟨by (with_reducible repeat (first|apply zP|apply zQ|apply zR));exact HO_408001.out⟩,⟨by (with_reducible repeat (first|apply zP|apply zQ|apply zR));exact HO_408002.out⟩,⟨by (with_reducible repeat (first|apply zDb|apply zEb|apply zFb));exact HO_408003.out⟩,⟨by (with_reducible repeat (first|refine zH ?_ _|refine zI ?_|refine zG ?_ _));exact BK394.out⟩,⟨by (with_reducible repeat (first|refine zH ?_ _|refine zI ?_|refine zG ?_ _));exact BK407.out⟩,⟨by repeat (first|(with_reducible first|exact HB.out|apply zA|apply zB|apply zC|refine zF ?_ GE394.out|refine zF ?_ GE407.out)|exact HB.out)⟩⟩
     case round =>
      clear H';(try clear c1);(try clear c2);(try clear p2);(try clear c5);(try clear c10);(try clear c11);(try clear c12);(try clear c13);(try clear c26);(try clear c53);(try clear p2);obtain ⟨x5_2,x37_2,rfl,HA,HK2,HO_5,HO_395000,HO_395001,HO_395002,HO_395003,HO_408000,HO_408001,HO_408002,HO_408003,BK394,BK407,HB⟩:=hrel;have hl5_2:=(zW HO_5.out).1;rw [hl5_2] at HO_5;(try simp only [hl5_2]);(try simp only [hl5_2] at BK394);(try simp only [hl5_2] at BK407);(try simp only [hl5_2] at HO_395000);(try simp only [hl5_2] at HO_395001);(try simp only [hl5_2] at HO_395002);(try simp only [hl5_2] at HO_395003);(try simp only [hl5_2] at HO_408000);(try simp only [hl5_2] at HO_408001);(try simp only [hl5_2] at HO_408002);(try simp only [hl5_2] at HO_408003);cases gk with
      | zero=>exact absurd HA.out (by simp [laws_FnTop.l0])
      | succ k2 =>
       have H:=HA.out;clear HA;simp only [laws_FnTop.l0] at H
       by_cases c55 : x37_2 < (t408.length : Int)
       ·rw [if_pos c55] at H;have c55b0 : decide (x37_2 < (t408.length : Int)) = true:=decide_eq_true c55;have c55b0_h:=c55b0;(try simp only [hl5_2] at c55b0_h);clear c55;by_cases c56 : 0 ≤ x37_2
        ·rw [if_pos c56] at H;have c56b0 : decide (0 ≤ x37_2) = true:=decide_eq_true c56;have c56b0_h:=c56b0;(try simp only [hl5_2] at c56b0_h);clear c56;by_cases c57 : x37_2 < (x5_2.length : Int)
         ·rw [if_pos c57] at H;have c57b0 : decide (x37_2 < (x5_2.length : Int)) = true:=decide_eq_true c57;have c57b0_h:=c57b0;(try simp only [hl5_2] at c57b0_h);clear c57;obtain ⟨y423,hy423⟩ : ∃ y_ : List Int,y_ = (x5_2.set (x37_2 : Int).toNat 77):=⟨_,rfl⟩;replace H : (laws_FnTop.l0 k2 y423 (t408.length : Int) (wrap64 (x37_2 + 1)) t382 t385 t388 t391 t395 t398 t401 t404) = some r:=by first|(rw [hy423];with_reducible exact H)|(have H2_:=(Option.bind_some _ _).symm.trans H;rw [hy423];with_reducible exact H2_)|(have H2_:=(Option.bind_some _ _).symm.trans H;with_reducible exact H2_)|with_reducible exact H|(rw [hy423];exact H)|exact H
          have Ny423:=zm hy423;clear hy423;have H':=zm H;clear H;have p58 : 0 ≤ (x37_2 : Int):=of_decide_eq_true (by first|(with_reducible assumption)|assumption)
          have q58 : (x37_2 : Int) < ((x5_2.length : Int) : Int):=of_decide_eq_true (by first|(with_reducible assumption)|assumption)
          obtain ⟨go58,co58,eo58,gb58,gl58,cl58,HG58⟩:=Kd.R_form HO_5.out (by omega)
          (first|cases eo58|(injection eo58 with ea_ en_ ec_;(first|subst ea_|(injection ea_ with ea_;subst ea_));subst ec_;clear en_))
          have GB58:=zm gb58;have GG58:=zm HG58;clear gb58 gl58 HG58;obtain ⟨hx58_0,hf58_0⟩:=Kd.R_celln 0 HO_5.out (x37_2 : Int) p58 q58;replace p58:=eq_true p58;replace q58:=eq_true q58;have HP59:=Kd.R_putg HO_5.out (x37_2 : Int) 77;go_wp2_with (first|((with_reducible refine gate_store (t:=3) (p:=42) rfl ?_);refine store_event (t:=3) (p:=42) (v:=?vo_w60) (w1:=(wr.setCell ⟨go58,(x37_2 : Int).toNat,none⟩ (.int .i64 77))) ?hg ?ho ?hn ?hr ?_;(case ho=>rfl);(case hg=>rfl);(case hn=>rfl);(case hr=>first|(go_simp;done)|(go_simp;rfl));intro w60 hw;have hg : wr.grownBy w60 (some go58):=(by rw [hw];exact HP59.2);have hp_ : Kd.R (Kd.int .i64) 3 w60 w.heap.size (fun k_=>some k_ ≠ (.slice Ao9 t382.length co9 : Value).ownBlock∧some k_ ≠ (.slice Ao11 t385.length co11 : Value).ownBlock∧some k_ ≠ (.slice Ao16 t395.length co16 : Value).ownBlock∧some k_ ≠ (.slice Ao19 t398.length co19 : Value).ownBlock) (.slice (some ⟨go58,0,none⟩) x5_2.length co54) y423:=(by rw [hw,Ny423.out];exact HP59.1);clear HP59;have n0_:=zm (hp_);have n1_:=zm (Kd.R_after (v:=(.slice (some ⟨go58,0,none⟩) x5_2.length co54)) (v1:=(.slice (some ⟨go58,0,none⟩) x5_2.length co54)) (ok:=(fun k_=>some k_ ≠ (.slice Ao11 t385.length co11 : Value).ownBlock∧some k_ ≠ (.slice Ao16 t395.length co16 : Value).ownBlock∧some k_ ≠ (.slice Ao19 t398.length co19 : Value).ownBlock)) (by (with_reducible repeat (first|apply zP|apply zQ|apply zR));exact zS HO_395000.out (fun _ hk=>⟨⟨hk.2.1,⟨hk.2.2.1,hk.2.2.2⟩⟩,hk.1⟩)) hg (.inl rfl));have n2_:=zm (Kd.R_after (v:=(.slice (some ⟨go58,0,none⟩) x5_2.length co54)) (v1:=(.slice (some ⟨go58,0,none⟩) x5_2.length co54)) (ok:=(fun k_=>some k_ ≠ (.slice Ao9 t382.length co9 : Value).ownBlock∧some k_ ≠ (.slice Ao16 t395.length co16 : Value).ownBlock∧some k_ ≠ (.slice Ao19 t398.length co19 : Value).ownBlock)) (by (with_reducible repeat (first|apply zP|apply zQ|apply zR));exact zS HO_395001.out (fun _ hk=>⟨⟨hk.2.1,⟨hk.2.2.1,hk.2.2.2⟩⟩,hk.1⟩)) hg (.inl rfl));have n3_:=zm (Kd.R_over' (v:=(.slice (some ⟨go58,0,none⟩) x5_2.length co54)) (by (with_reducible repeat (first|apply zP|apply zQ|apply zR));exact HO_395002.out) (Kd.R_typed HO_5.out) (by decide) hg);have n4_:=zm (Kd.S_over' (v:=(.slice (some ⟨go58,0,none⟩) x5_2.length co54)) (by (with_reducible repeat (first|apply zDb|apply zEb|apply zFb));exact HO_395003.out) (Kd.R_typed HO_5.out) (by decide) hg);have n5_:=zm (Kd.R_after (v:=(.slice (some ⟨go58,0,none⟩) x5_2.length co54)) (v1:=(.slice (some ⟨go58,0,none⟩) x5_2.length co54)) (ok:=(fun k_=>some k_ ≠ (.slice Ao9 t382.length co9 : Value).ownBlock∧some k_ ≠ (.slice Ao11 t385.length co11 : Value).ownBlock∧some k_ ≠ (.slice Ao19 t398.length co19 : Value).ownBlock)) (by (with_reducible repeat (first|apply zP|apply zQ|apply zR));exact zS HO_408000.out (fun _ hk=>⟨⟨hk.2.1,⟨hk.2.2.1,hk.2.2.2⟩⟩,hk.1⟩)) hg (.inl rfl));have n6_:=zm (Kd.R_after (v:=(.slice (some ⟨go58,0,none⟩) x5_2.length co54)) (v1:=(.slice (some ⟨go58,0,none⟩) x5_2.length co54)) (ok:=(fun k_=>some k_ ≠ (.slice Ao9 t382.length co9 : Value).ownBlock∧some k_ ≠ (.slice Ao11 t385.length co11 : Value).ownBlock∧some k_ ≠ (.slice Ao16 t395.length co16 : Value).ownBlock)) (by (with_reducible repeat (first|apply zP|apply zQ|apply zR));exact zS HO_408001.out (fun _ hk=>⟨⟨hk.2.1,⟨hk.2.2.1,hk.2.2.2⟩⟩,hk.1⟩)) hg (.inl rfl));have n7_:=zm (Kd.R_over' (v:=(.slice (some ⟨go58,0,none⟩) x5_2.length co54)) (by (with_reducible repeat (first|apply zP|apply zQ|apply zR));exact HO_408002.out) (Kd.R_typed HO_5.out) (by decide) hg);have n8_:=zm (Kd.S_over' (v:=(.slice (some ⟨go58,0,none⟩) x5_2.length co54)) (by (with_reducible repeat (first|apply zDb|apply zEb|apply zFb));exact HO_408003.out) (Kd.R_typed HO_5.out) (by decide) hg);have n9_:=zm (blk_grown (g:=gb394) (o:=.cells #[.slice Ao9 t382.length co9,.slice Ao11 t385.length co11,.slice Ao12 t388.length co12,.slice Ao13 t391.length co13] 29 (0,0)) (by (with_reducible repeat (first|refine zH ?_ _|refine zI ?_|refine zG ?_ _));exact BK394.out) hg (Kd.R_ne HO_5.out BK394.out (by decide)));have n10_:=zm (blk_grown (g:=gb407) (o:=.cells #[.slice Ao16 t395.length co16,.slice Ao19 t398.length co19,.slice Ao20 t401.length co20,.slice Ao21 t404.length co21] 29 (0,0)) (by (with_reducible repeat (first|refine zH ?_ _|refine zI ?_|refine zG ?_ _));exact BK407.out) hg (Kd.R_ne HO_5.out BK407.out (by decide)));have n11_:=zm ((by rw [hw];exact zF (HB.out) GB58.out : Below w.heap.size w w60));clear HO_5;clear HO_395000;clear HO_395001;clear HO_395002;clear HO_395003;clear HO_408000;clear HO_408001;clear HO_408002;clear HO_408003;clear BK394;clear BK407;clear HB;have HO_5:=n0_;have HO_395000:=n1_;have HO_395001:=n2_;have HO_395002:=n3_;have HO_395003:=n4_;have HO_408000:=n5_;have HO_408001:=n6_;have HO_408002:=n7_;have HO_408003:=n8_;have BK394:=n9_;have BK407:=n10_;have HB:=n11_;clear n0_ n1_ n2_ n3_ n4_ n5_ n6_ n7_ n8_ n9_ n10_ n11_;clear hg hw hp_))
          (try simp only [← hl5_2]);go_roundg k2
          case measure=>have:=HJ5.out;have:=HK2.out;omega
          case rel=>exact ⟨(y423),(wrap64 (x37_2 + 1)),(by first|rfl|(simp;done)|(simp [*];done)),H',⟨by have:=HJ5.out;have:=HK2.out;omega⟩,⟨by (try simp only [hl5_2]);(with_reducible repeat (first|apply zP|apply zQ|apply zR));exact HO_5.out⟩,⟨by (try simp only [hl5_2]);(with_reducible repeat (first|apply zP|apply zQ|apply zR));exact zS HO_395000.out (fun _ hk=>⟨hk.2,⟨hk.1.1,⟨hk.1.2.1,hk.1.2.2⟩⟩⟩)⟩,⟨by (try simp only [hl5_2]);(with_reducible repeat (first|apply zP|apply zQ|apply zR));exact zS HO_395001.out (fun _ hk=>⟨hk.2,⟨hk.1.1,⟨hk.1.2.1,hk.1.2.2⟩⟩⟩)⟩,⟨by (try simp only [hl5_2]);(with_reducible repeat (first|apply zP|apply zQ|apply zR));exact HO_395002.out⟩,⟨by (try simp only [hl5_2]);(with_reducible repeat (first|apply zDb|apply zEb|apply zFb));exact HO_395003.out⟩,⟨by (try simp only [hl5_2]);(with_reducible repeat (first|apply zP|apply zQ|apply zR));exact zS HO_408000.out (fun _ hk=>⟨hk.2,⟨hk.1.1,⟨hk.1.2.1,hk.1.2.2⟩⟩⟩)⟩,⟨by (try simp only [hl5_2]);(with_reducible repeat (first|apply zP|apply zQ|apply zR));exact zS HO_408001.out (fun _ hk=>⟨hk.2,⟨hk.1.1,⟨hk.1.2.1,hk.1.2.2⟩⟩⟩)⟩,⟨by (try simp only [hl5_2]);(with_reducible repeat (first|apply zP|apply zQ|apply zR));exact HO_408002.out⟩,⟨by (try simp only [hl5_2]);(with_reducible repeat (first|apply zDb|apply zEb|apply zFb));exact HO_408003.out⟩,⟨by (try simp only [hl5_2]);(with_reducible repeat (first|refine zH ?_ _|refine zI ?_|refine zG ?_ _));exact BK394.out⟩,⟨by (try simp only [hl5_2]);(with_reducible repeat (first|refine zH ?_ _|refine zI ?_|refine zG ?_ _));exact BK407.out⟩,⟨by repeat (first|(with_reducible first|exact HB.out|apply zA|apply zB|apply zC|refine zF ?_ GE394.out|refine zF ?_ GE407.out)|exact HB.out)⟩⟩
         ·rw [if_neg c57] at H;exact absurd H (by simp)
        ·rw [if_neg c56] at H;exact absurd H (by simp)
       ·rw [if_neg c55] at H;have c55b0 : decide (x37_2 < (t408.length : Int)) = false:=decide_eq_false c55;have c55b0_h:=c55b0;(try simp only [hl5_2] at c55b0_h);clear c55;replace H:=Option.bind_eq_some_iff.mp H;obtain ⟨t424,A610,H⟩:=H;replace H : ((spec_Shows.f k2 t395 t398 t401 t404).bind fun t427=>((laws_wInts.f k2 t424 t427).bind fun t430=>(some t430))) = some r:=H
        have A61:=zm A610;clear A610;replace H:=Option.bind_eq_some_iff.mp H;obtain ⟨t427,A620,H⟩:=H;replace H : ((laws_wInts.f k2 t424 t427).bind fun t430=>(some t430)) = some r:=H
        have A62:=zm A620;clear A620;replace H:=Option.bind_eq_some_iff.mp H;obtain ⟨t430,A630,H⟩:=H;replace H : (some t430) = some r:=H;have A63:=zm A630;clear A630;obtain rfl:=Option.some.inj H;try go_wp2
        have n0_:=zm (zR HO_5.out);have n1_:=zm (zR HO_395000.out);have n2_:=zm (zR HO_395001.out);have n3_:=zm (zR HO_395002.out);have n4_:=zm (zFb HO_395003.out);have n5_:=zm (zR HO_408000.out);have n6_:=zm (zR HO_408001.out);have n7_:=zm (zR HO_408002.out);have n8_:=zm (zFb HO_408003.out);have n9_:=zm (zI BK394.out);have n10_:=zm (zI BK407.out);have n11_:=zm (zC HB.out);clear HO_5;clear HO_395000;clear HO_395001;clear HO_395002;clear HO_395003;clear HO_408000;clear HO_408001;clear HO_408002;clear HO_408003;clear BK394;clear BK407;clear HB;have HO_5:=n0_;have HO_395000:=n1_;have HO_395001:=n2_;have HO_395002:=n3_;have HO_395003:=n4_;have HO_408000:=n5_;have HO_408001:=n6_;have HO_408002:=n7_;have HO_408003:=n8_;have BK394:=n9_;have BK407:=n10_;have HB:=n11_;clear n0_ n1_ n2_ n3_ n4_ n5_ n6_ n7_ n8_ n9_ n10_ n11_;refine start_ (n:=6) (S:=fun w'=>w'.cell? ⟨gb394,0,none⟩ = some (.slice Ao9 t382.length co9)∧w'.cell? ⟨gb394,1,none⟩ = some (.slice Ao11 t385.length co11)∧w'.cell? ⟨gb394,2,none⟩ = some (.slice Ao12 t388.length co12)∧w'.cell? ⟨gb394,3,none⟩ = some (.slice Ao13 t391.length co13)∧w'.cell? ⟨gb407,0,none⟩ = some (.slice Ao16 t395.length co16)∧w'.cell? ⟨gb407,1,none⟩ = some (.slice Ao19 t398.length co19)∧w'.cell? ⟨gb407,2,none⟩ = some (.slice Ao20 t401.length co20)∧w'.cell? ⟨gb407,3,none⟩ = some (.slice Ao21 t404.length co21)) (ds:=[]) #[n',n',n',n',n',n'] (by kernel_rfl) rfl rfl ⟨(zD BK394.out 0).trans rfl,(zD BK394.out 1).trans rfl,(zD BK394.out 2).trans rfl,(zD BK394.out 3).trans rfl,(zD BK407.out 0).trans rfl,(zD BK407.out 1).trans rfl,(zD BK407.out 2).trans rfl,(zD BK407.out 3).trans rfl⟩ (fun hHeld=>?_)
        generalize wr.drew = w64 at HO_5 HO_395000 HO_395001 HO_395002 HO_395003 HO_408000 HO_408001 HO_408002 HO_408003 BK394 BK407 HB hHeld ⊢
        refine take_ (i:=0) (N:=some 44) (v:=?_) (a':=?_) #[y',n',n',n',n',n'] rfl rfl (by kernel_rfl) (fun _ _ _ h=>h) (Or.inl ⟨by rfl,?_⟩) hHeld ?_ ?_
        rotate_left
        ·rintro w' ⟨s0,s1,s2,s3,s4,s5,s6,s7⟩
         go_simp
         with_reducible rfl
        rotate_left
        ·simp only [Act.put,List.setIfInBounds_toArray,List.set_cons_zero,List.set_cons_succ,i64_w,i32_w]
         rfl
        refine take_ (i:=2) (N:=some 46) (v:=?_) (a':=?_) #[y',n',y',n',n',n'] rfl rfl (by kernel_rfl) (fun _ _ _ h=>h) (Or.inl ⟨by rfl,?_⟩) hHeld ?_ ?_
        rotate_left
        ·rintro w' ⟨s0,s1,s2,s3,s4,s5,s6,s7⟩
         go_simp
         with_reducible rfl
        rotate_left
        ·simp only [Act.put,List.setIfInBounds_toArray,List.set_cons_zero,List.set_cons_succ,i64_w,i32_w]
         rfl
        refine one_ (i:=1) (N:=some 45) #[y',y',y',n',n',n'] rfl rfl (by kernel_rfl) (by decide) (fun K hK=>?_)
        refine goes_ Try.func8 (by kernel_rfl) rfl #[.agg #[.slice Ao9 t382.length co9,.slice Ao11 t385.length co11,.slice Ao12 t388.length co12,.slice Ao13 t391.length co13]] (by rfl) rfl rfl (by (try simp only [List.map_toArray,List.map_cons,List.map_nil]);first|done|rfl|(simp only [List.length_drop,List.length_take];rfl)) ?_
        with_reducible refine (impl_Shows.calls k2 _ _ t382 _ _ t385 _ _ t388 _ _ t391 t424 _ ?side1 ?side2 ?side3 ?side4 ?side5 ?side6 ?side7 ?side8 A61.out).mono ?_
        (case side1=>repeat (first|exact (zW HO_395000.out).2.2|(with_reducible refine zT ?_ _)|(with_reducible refine zU ?_ _)|(with_reducible refine zV ?_)))
        (case side2=>exact (zW HO_395000.out).2.1)
        (case side3=>repeat (first|exact (zW HO_395001.out).2.2|(with_reducible refine zT ?_ _)|(with_reducible refine zU ?_ _)|(with_reducible refine zV ?_)))
        (case side4=>exact (zW HO_395001.out).2.1)
        (case side5=>repeat (first|exact (zW HO_395002.out).2.2|(with_reducible refine zT ?_ _)|(with_reducible refine zU ?_ _)|(with_reducible refine zV ?_)))
        (case side6=>exact (zW HO_395002.out).2.1)
        (case side7=>repeat (first|exact (Kd.S_reads' HO_395003.out).2.2|(with_reducible refine zT ?_ _)|(with_reducible refine zU ?_ _)|(with_reducible refine zV ?_)))
        (case side8=>exact (Kd.S_reads' HO_395003.out).2.1)
        rintro e w65 ⟨v425,rfl,ho0,hb⟩
        refine ⟨_,rfl,?_⟩
        have n0_:=zm (zGb (by (with_reducible repeat (first|apply zP|apply zQ|apply zR));exact HO_5.out) (zCb ho0) hb)
        have n1_:=zm (zGb (by (with_reducible repeat (first|apply zP|apply zQ|apply zR));exact HO_395000.out) (zCb ho0) hb)
        have n2_:=zm (zGb (by (with_reducible repeat (first|apply zP|apply zQ|apply zR));exact HO_395001.out) (zCb ho0) hb)
        have n3_:=zm (zHb (by (with_reducible repeat (first|apply zP|apply zQ|apply zR));exact HO_395002.out) hb)
        have n4_:=zm (Kd.S_below (by (with_reducible repeat (first|apply zDb|apply zEb|apply zFb));exact HO_395003.out) hb)
        have n5_:=zm (zGb (by (with_reducible repeat (first|apply zP|apply zQ|apply zR));exact HO_408000.out) (zCb ho0) hb)
        have n6_:=zm (zGb (by (with_reducible repeat (first|apply zP|apply zQ|apply zR));exact HO_408001.out) (zCb ho0) hb)
        have n7_:=zm (zHb (by (with_reducible repeat (first|apply zP|apply zQ|apply zR));exact HO_408002.out) hb)
        have n8_:=zm (Kd.S_below (by (with_reducible repeat (first|apply zDb|apply zEb|apply zFb));exact HO_408003.out) hb)
        have n9_:=zm (zZ (Kd.R_new' (Kd.R_new' (Kd.R_new' (Kd.R_new' (Kd.R_new' ho0 (Kd.R_lt (by (with_reducible repeat (first|apply zP|apply zQ|apply zR));exact HO_5.out))) (Kd.R_lt (by (with_reducible repeat (first|apply zP|apply zQ|apply zR));exact HO_395000.out))) (Kd.R_lt (by (with_reducible repeat (first|apply zP|apply zQ|apply zR));exact HO_395001.out))) (Kd.R_lt (by (with_reducible repeat (first|apply zP|apply zQ|apply zR));exact HO_408000.out))) (Kd.R_lt (by (with_reducible repeat (first|apply zP|apply zQ|apply zR));exact HO_408001.out))) (zJ (by repeat (first|(with_reducible first|exact HB.out|apply zA|apply zB|apply zC|refine zF ?_ GE394.out|refine zF ?_ GE407.out)|exact HB.out))))
        have n10_:=zm (zL (g:=gb394) (o:=.cells #[.slice Ao9 t382.length co9,.slice Ao11 t385.length co11,.slice Ao12 t388.length co12,.slice Ao13 t391.length co13] 29 (0,0)) (by (with_reducible repeat (first|refine zH ?_ _|refine zI ?_|refine zG ?_ _));exact BK394.out) hb)
        have n11_:=zm (zL (g:=gb407) (o:=.cells #[.slice Ao16 t395.length co16,.slice Ao19 t398.length co19,.slice Ao20 t401.length co20,.slice Ao21 t404.length co21] 29 (0,0)) (by (with_reducible repeat (first|refine zH ?_ _|refine zI ?_|refine zG ?_ _));exact BK407.out) hb)
        have n12_:=zm (zK (by repeat (first|(with_reducible first|exact HB.out|apply zA|apply zB|apply zC|refine zF ?_ GE394.out|refine zF ?_ GE407.out)|exact HB.out)) hb)
        clear HO_5;clear HO_395000;clear HO_395001;clear HO_395002;clear HO_395003;clear HO_408000;clear HO_408001;clear HO_408002;clear HO_408003;clear BK394;clear BK407;clear HB;have HO_5:=n0_;have HO_395000:=n1_;have HO_395001:=n2_;have HO_395002:=n3_;have HO_395003:=n4_;have HO_408000:=n5_;have HO_408001:=n6_;have HO_408002:=n7_;have HO_408003:=n8_;have HO426:=n9_;have BK394:=n10_;have BK407:=n11_;have HB:=n12_;clear n0_ n1_ n2_ n3_ n4_ n5_ n6_ n7_ n8_ n9_ n10_ n11_ n12_;(try clear hb);(try clear hb2);(try clear hk);(try clear hi);(try clear ho0);refine hK.out _ _ ⟨(zD BK394.out 0).trans rfl,(zD BK394.out 1).trans rfl,(zD BK394.out 2).trans rfl,(zD BK394.out 3).trans rfl,(zD BK407.out 0).trans rfl,(zD BK407.out 1).trans rfl,(zD BK407.out 2).trans rfl,(zD BK407.out 3).trans rfl⟩ (fun hHeld=>?_)
        clear hK K;refine norm_ (a':=?_) ?_ ?_
        rotate_left
        ·show Act.put _ (some 45) _ = _
         simp only [Act.put,List.setIfInBounds_toArray,List.set_cons_zero,List.set_cons_succ,i64_w,i32_w]
         rfl
        refine one_ (i:=3) (N:=some 47) #[y',y',y',y',n',n'] rfl rfl (by kernel_rfl) (by decide) (fun K hK=>?_)
        refine goes_ Try.func11 (by kernel_rfl) rfl #[.agg #[.slice Ao16 t395.length co16,.slice Ao19 t398.length co19,.slice Ao20 t401.length co20,.slice Ao21 t404.length co21]] (by rfl) rfl rfl (by (try simp only [List.map_toArray,List.map_cons,List.map_nil]);first|done|rfl|(simp only [List.length_drop,List.length_take];rfl)) ?_
        with_reducible refine (spec_Shows.calls k2 _ _ t395 _ _ t398 _ _ t401 _ _ t404 t427 _ ?side1 ?side2 ?side3 ?side4 ?side5 ?side6 ?side7 ?side8 A62.out).mono ?_
        (case side1=>repeat (first|exact (zW HO_408000.out).2.2|(with_reducible refine zT ?_ _)|(with_reducible refine zU ?_ _)|(with_reducible refine zV ?_)))
        (case side2=>exact (zW HO_408000.out).2.1)
        (case side3=>repeat (first|exact (zW HO_408001.out).2.2|(with_reducible refine zT ?_ _)|(with_reducible refine zU ?_ _)|(with_reducible refine zV ?_)))
        (case side4=>exact (zW HO_408001.out).2.1)
        (case side5=>repeat (first|exact (zW HO_408002.out).2.2|(with_reducible refine zT ?_ _)|(with_reducible refine zU ?_ _)|(with_reducible refine zV ?_)))
        (case side6=>exact (zW HO_408002.out).2.1)
        (case side7=>repeat (first|exact (Kd.S_reads' HO_408003.out).2.2|(with_reducible refine zT ?_ _)|(with_reducible refine zU ?_ _)|(with_reducible refine zV ?_)))
        (case side8=>exact (Kd.S_reads' HO_408003.out).2.1)
        rintro e w66 ⟨v428,rfl,ho0,hb⟩
        refine ⟨_,rfl,?_⟩
        have n0_:=zm (zGb (by (with_reducible repeat (first|apply zP|apply zQ|apply zR));exact HO_5.out) (zCb ho0) hb)
        have n1_:=zm (zGb (by (with_reducible repeat (first|apply zP|apply zQ|apply zR));exact HO_395000.out) (zCb ho0) hb)
        have n2_:=zm (zGb (by (with_reducible repeat (first|apply zP|apply zQ|apply zR));exact HO_395001.out) (zCb ho0) hb)
        have n3_:=zm (zHb (by (with_reducible repeat (first|apply zP|apply zQ|apply zR));exact HO_395002.out) hb)
        have n4_:=zm (Kd.S_below (by (with_reducible repeat (first|apply zDb|apply zEb|apply zFb));exact HO_395003.out) hb)
        have n5_:=zm (zGb (by (with_reducible repeat (first|apply zP|apply zQ|apply zR));exact HO_408000.out) (zCb ho0) hb)
        have n6_:=zm (zGb (by (with_reducible repeat (first|apply zP|apply zQ|apply zR));exact HO_408001.out) (zCb ho0) hb)
        have n7_:=zm (zHb (by (with_reducible repeat (first|apply zP|apply zQ|apply zR));exact HO_408002.out) hb)
        have n8_:=zm (Kd.S_below (by (with_reducible repeat (first|apply zDb|apply zEb|apply zFb));exact HO_408003.out) hb)
        have n9_:=zm (zGb (by (with_reducible repeat (first|apply zP|apply zQ|apply zR));exact HO426.out) (zCb ho0) hb)
        have n10_:=zm (zZ (Kd.R_new' (Kd.R_new' (Kd.R_new' (Kd.R_new' (Kd.R_new' (Kd.R_new' ho0 (Kd.R_lt (by (with_reducible repeat (first|apply zP|apply zQ|apply zR));exact HO_5.out))) (Kd.R_lt (by (with_reducible repeat (first|apply zP|apply zQ|apply zR));exact HO_395000.out))) (Kd.R_lt (by (with_reducible repeat (first|apply zP|apply zQ|apply zR));exact HO_395001.out))) (Kd.R_lt (by (with_reducible repeat (first|apply zP|apply zQ|apply zR));exact HO_408000.out))) (Kd.R_lt (by (with_reducible repeat (first|apply zP|apply zQ|apply zR));exact HO_408001.out))) (Kd.R_lt (by (with_reducible repeat (first|apply zP|apply zQ|apply zR));exact HO426.out))) (zJ (by repeat (first|(with_reducible first|exact HB.out|apply zA|apply zB|apply zC|refine zF ?_ GE394.out|refine zF ?_ GE407.out)|exact HB.out))))
        have n11_:=zm (zL (g:=gb394) (o:=.cells #[.slice Ao9 t382.length co9,.slice Ao11 t385.length co11,.slice Ao12 t388.length co12,.slice Ao13 t391.length co13] 29 (0,0)) (by (with_reducible repeat (first|refine zH ?_ _|refine zI ?_|refine zG ?_ _));exact BK394.out) hb)
        have n12_:=zm (zL (g:=gb407) (o:=.cells #[.slice Ao16 t395.length co16,.slice Ao19 t398.length co19,.slice Ao20 t401.length co20,.slice Ao21 t404.length co21] 29 (0,0)) (by (with_reducible repeat (first|refine zH ?_ _|refine zI ?_|refine zG ?_ _));exact BK407.out) hb)
        have n13_:=zm (zK (by repeat (first|(with_reducible first|exact HB.out|apply zA|apply zB|apply zC|refine zF ?_ GE394.out|refine zF ?_ GE407.out)|exact HB.out)) hb)
        clear HO_5;clear HO_395000;clear HO_395001;clear HO_395002;clear HO_395003;clear HO_408000;clear HO_408001;clear HO_408002;clear HO_408003;clear HO426;clear BK394;clear BK407;clear HB;have HO_5:=n0_;have HO_395000:=n1_;have HO_395001:=n2_;have HO_395002:=n3_;have HO_395003:=n4_;have HO_408000:=n5_;have HO_408001:=n6_;have HO_408002:=n7_;have HO_408003:=n8_;have HO426:=n9_;have HO429:=n10_;have BK394:=n11_;have BK407:=n12_;have HB:=n13_;clear n0_ n1_ n2_ n3_ n4_ n5_ n6_ n7_ n8_ n9_ n10_ n11_ n12_ n13_;(try clear hb);(try clear hb2);(try clear hk);(try clear hi);(try clear ho0);obtain ⟨Ao67,co67,eo67⟩:=zAb HO426.out;(first|subst eo67|(injection eo67 with f1_ f2_ f3_;have f4_:=f1_.symm;have f5_:=f3_.symm;clear f1_ f2_ f3_;subst f4_;subst f5_))
        obtain ⟨Ao68,co68,eo68⟩:=zAb HO429.out;(first|subst eo68|(injection eo68 with f1_ f2_ f3_;have f4_:=f1_.symm;have f5_:=f3_.symm;clear f1_ f2_ f3_;subst f4_;subst f5_))
        refine hK.out _ _ ⟨(zD BK394.out 0).trans rfl,(zD BK394.out 1).trans rfl,(zD BK394.out 2).trans rfl,(zD BK394.out 3).trans rfl,(zD BK407.out 0).trans rfl,(zD BK407.out 1).trans rfl,(zD BK407.out 2).trans rfl,(zD BK407.out 3).trans rfl⟩ (fun hHeld=>?_)
        clear hK K;refine norm_ (a':=?_) ?_ ?_
        rotate_left
        ·show Act.put _ (some 47) _ = _
         simp only [Act.put,List.setIfInBounds_toArray,List.set_cons_zero,List.set_cons_succ,i64_w,i32_w]
         rfl
        refine one_ (i:=4) (N:=some 48) #[y',y',y',y',y',n'] rfl rfl (by kernel_rfl) (by decide) (fun K hK=>?_)
        refine goes_ Try.func10 (by kernel_rfl) rfl #[.slice Ao67 t424.length co67,.slice Ao68 t427.length co68] (by rfl) rfl rfl (by (try simp only [List.map_toArray,List.map_cons,List.map_nil]);first|done|rfl|(simp only [List.length_drop,List.length_take];rfl)) ?_
        with_reducible refine (laws_wInts.calls k2 _ _ t424 _ _ t427 t430 _ ?side1 ?side2 ?side3 ?side4 A63.out).mono ?_
        (case side1=>repeat (first|exact (zW HO426.out).2.2|(with_reducible refine zT ?_ _)|(with_reducible refine zU ?_ _)|(with_reducible refine zV ?_)))
        (case side2=>exact (zW HO426.out).2.1)
        (case side3=>repeat (first|exact (zW HO429.out).2.2|(with_reducible refine zT ?_ _)|(with_reducible refine zU ?_ _)|(with_reducible refine zV ?_)))
        (case side4=>exact (zW HO429.out).2.1)
        rintro e w' ⟨rfl,⟨nd,rfl⟩⟩
        refine ⟨_,rfl,?_⟩
        refine hK.out _ _ ⟨(zD BK394.out 0).trans rfl,(zD BK394.out 1).trans rfl,(zD BK394.out 2).trans rfl,(zD BK394.out 3).trans rfl,(zD BK407.out 0).trans rfl,(zD BK407.out 1).trans rfl,(zD BK407.out 2).trans rfl,(zD BK407.out 3).trans rfl⟩ (fun hHeld=>?_)
        clear hK K;refine norm_ (a':=?_) ?_ ?_
        rotate_left
        ·show Act.put _ (some 48) _ = _
         simp only [Act.put,List.setIfInBounds_toArray,List.set_cons_zero,List.set_cons_succ,i64_w,i32_w]
         rfl
        refine pure_ (i:=5) (N:=some 2) (v:=?_) (a':=?_) #[y',y',y',y',y',y'] rfl rfl (by kernel_rfl) (fun _ _ _ h=>h) (Or.inl ⟨by rfl,?_⟩) ?_ ?_
        rotate_left
        ·intro w'
         go_simp
         with_reducible rfl
        rotate_left
        ·simp only [Act.put,List.setIfInBounds_toArray,List.set_cons_zero,List.set_cons_succ,i64_w,i32_w]
         rfl
        refine done_ (by kernel_rfl) ?_
        try go_wp2
        go_ret
        exact ⟨by first|rfl|(simp [errW_none,errW_some] <;> rfl)|(simp [*,errW_none,errW_some] <;> rfl),by repeat (first|(with_reducible first|exact HB.out|apply zA|apply zB|apply zC|refine zF ?_ GE394.out|refine zF ?_ GE407.out)|exact HB.out)⟩

/-- THE ONE PURE STATEMENT of laws_FnTop: yours. -/
def laws_FnTop.Pure : Prop:=∀ (l0 : List Int),l0.length ≤ maxLen→l0.length * 1 ≤ 140737488351232→(∀ x ∈ l0,(Lit.int .u8 x).wf = true)→∃ k,laws_FnTop.f k l0 = some true
theorem laws_FnTop.walk (P : laws_FnTop.Pure) (a0 : Option Addr) (len0 cap0 : Nat) (z0 : List Int) (w : World) (w0 : (a0 = none∧len0 = 0∧cap0 = 0∧z0 = []) ∨ ∃ x,a0 = some x∧len0 ≤ cap0∧cap0 ≤ maxLen∧z0.length = cap0∧(∀ i,i < z0.length→w.cell? (x.add i) = some (.int .u8 (z0.getD i 0)))∧∀ n ∈ z0,(Lit.int .u8 n).wf = true) (y0 : len0 * 1 ≤ 140737488351232) :
  Calls Try.prog 5 #[.slice a0 len0 cap0] w fun e w'=>e = .returned (.bool true)∧Below w.heap.size w w':=by
 obtain ⟨l0,rfl,hr0,hm0,hw0,hc0⟩:=ReadsInt.ofRowC w0;obtain ⟨k,h⟩:=P l0 hm0 y0 hw0;refine (laws_FnTop.calls k _ _ l0 true w (Kd.C_of_reads (d:=(0 : Int)) (h1:=fun _=>rfl) hr0) hc0 h).mono ?_
 rintro e w' ⟨rfl,hd⟩
 exact ⟨rfl,hd⟩

end Go.Proofs.Ytlojolldbbooeaa.P
