-- written by a program of this session (after the kit's print), not trusted: Lean checks it
import Derived.Test.YtpdcghclcgbcfaaTx0
import Derived.Test.YtpdcghclcgbcfaaTx8
namespace Go.Proofs.Ytpdcghclcgbcfaa.T
open Go.RowKit Go.Proofs.YtpdcghclcgbcfaaW.PrintWords Go.Proofs.YtpdcghclcgbcfaaW.PrintLast Go.Proofs.YtpdcghclcgbcfaaW.PrintMore
open Go.Proofs.YtpdcghclcgbcfaaW.PrintWords renaming below_alloc → zA, below_drew1 → zC, below_set → zF, below_size → zJ, below_step → zK, blk_alloc → zG, blk_below → zL, blk_cell → zD, blk_drew → zI, blk_drewN → zH, box_event → zN, gate_dst → zM, pw_below_drewN → zB
open Go.Proofs.YtpdcghclcgbcfaaW.PrintWords.Kd renaming C_alloc → zT, C_below → zY, C_drew → zV, C_drewN → zU, R_alloc → zP, R_base → zCb, R_drew → zR, R_drewN → zQ, R_elder' → zGb, R_lower → zZ, R_mono → zS, R_reads' → zW, R_slice → zAb
open Go.Proofs.YtpdcghclcgbcfaaW.PrintWords.Aside0 renaming mk → zm
open Bool renaming true → y', false → n'
attribute [local go_sem] max2_int min2_int max_two min_two max_three min_three max_four min_four   -- for this text's walks alone
set_option linter.unusedVariables false
set_option linter.unusedSimpArgs false

/-! ### impl_changes: function 63 -/
def impl_changes.l0 : Nat→List Int→List Int→List (S50)→Int→Int→Option ((List (S50)))
 | 0,_,_,_,_,_=>none
 | k + 1,x5,x6,x7,x14,x15=>if x15 < x14 then (if 0 ≤ x15 then (if x15 < (x5.length : Int) then (if x15 < (x6.length : Int) then (if (rd x5 x15) = (rd x6 x15) then (impl_changes.l0 k x5 x6 x7 x14 (wrap64 (x15 + 1))) else (if x7.length < 5864062014805 then (impl_changes.l0 k x5 x6 (x7 ++ [(⟨x15,rd x5 x15,rd x6 x15⟩ : S50)]) x14 (wrap64 (x15 + 1))) else (none))) else (none)) else (none)) else (none)) else (some x7)
def impl_changes.f (k : Nat) (l0_0 : List Int) (l0_1 : List Int) (l0_2 : List Bool) (l0_3 : List (List Bool)) (l1_0 : List Int) (l1_1 : List Int) (l1_2 : List Bool) (l1_3 : List (List Bool)) : Option ((List (S50))):=(impl_Shows.f k l0_0 l0_1 l0_2 l0_3).bind fun t308=>((impl_Shows.f k l1_0 l1_1 l1_2 l1_3).bind fun t311=>(impl_changes.l0 k t308 t311 ([] : List (S50)) (t308.length : Int) 0))
theorem impl_changes.mono_l : ∀ k,(∀ y0 y1 y2 y3 y4,LeO (impl_changes.l0 k y0 y1 y2 y3 y4) (impl_changes.l0 (k + 1) y0 y1 y2 y3 y4))
 | 0=>fun _ _ _ _ _ r h=>by simp [impl_changes.l0] at h
 | k + 1=>by
  have ih0:=impl_changes.mono_l k
  ·intro y0 y1 y2 y3 y4
   unfold impl_changes.l0
   repeat' first
   | (with_reducible exact ih0 _ _ _ _ _)
   | (with_reducible exact impl_Shows.mono _ _ _ _ _)
   | (with_reducible exact LeO.refl _)
   | (with_reducible exact LeO.none _)
   | (with_reducible refine LeO.ite ?_ ?_)
   | (with_reducible refine LeO.bind ?_ (fun _=>?_))
   | exact ih0 _ _ _ _ _
   | exact impl_Shows.mono _ _ _ _ _
   | exact LeO.none _
   | refine LeO.ite ?_ ?_
   | refine LeO.bind ?_ (fun _=>?_)
theorem impl_changes.mono : ∀ a0 a1 a2 a3 a4 a5 a6 a7 k,LeO (impl_changes.f k a0 a1 a2 a3 a4 a5 a6 a7) (impl_changes.f (k + 1) a0 a1 a2 a3 a4 a5 a6 a7):=by
 intro a0 a1 a2 a3 a4 a5 a6 a7 k
 have ih0:=impl_changes.mono_l k;unfold impl_changes.f
 repeat' first
   | (with_reducible exact ih0 _ _ _ _ _)
   | (with_reducible exact impl_Shows.mono _ _ _ _ _)
   | (with_reducible exact LeO.refl _)
   | (with_reducible exact LeO.none _)
   | (with_reducible refine LeO.ite ?_ ?_)
   | (with_reducible refine LeO.bind ?_ (fun _=>?_))
   | exact ih0 _ _ _ _ _
   | exact impl_Shows.mono _ _ _ _ _
   | exact LeO.none _
   | refine LeO.ite ?_ ?_
   | refine LeO.bind ?_ (fun _=>?_)
def impl_changes.T6 : Bool × List (List Nat × List Nat):=(true,[([],[]),([],[]),([0,1],[0,1]),([2],[2]),([],[]),([],[]),([4,5],[4,5]),([6],[6]),([3,7],[3,7])])
def impl_changes.B6 : List Nat:=[0,0,3,7,0,0,48,112,255]
theorem impl_changes.tab6 : rtab .any (opsOf Try.f63 6) = impl_changes.T6:=by kernel_rfl
theorem impl_changes.bits6 : waitsOk impl_changes.T6.2 impl_changes.B6 = true:=by kernel_rfl
def impl_changes.T7 : Bool × List (List Nat × List Nat):=(true,[([],[]),([],[]),([],[]),([],[]),([2,3],[2,3]),([4],[4]),([],[]),([],[]),([6,7],[6,7]),([8],[8]),([1,5,9],[1,5,9]),([10],[10]),([0,11],[0,11]),([12,12,0,1,2,3,4,5,6,7,8,9,10,11,12],[0,12])])
def impl_changes.B7 : List Nat:=[0,0,0,0,12,28,0,0,192,448,1022,2046,4095,8191]
theorem impl_changes.tab7 : rtab .any (opsOf Try.f63 7) = impl_changes.T7:=by kernel_rfl
theorem impl_changes.bits7 : waitsOk impl_changes.T7.2 impl_changes.B7 = true:=by kernel_rfl
set_option maxHeartbeats 8000000 in
set_option maxRecDepth 100000 in
theorem impl_changes.calls (k : Nat) (A0_0 : Option Addr) (c0_0 : Nat) (l0_0 : List Int) (A0_1 : Option Addr) (c0_1 : Nat) (l0_1 : List Int) (A0_2 : Option Addr) (c0_2 : Nat) (l0_2 : List Bool) (A0_3 : Option Addr) (c0_3 : Nat) (l0_3 : List (List Bool)) (A1_0 : Option Addr) (c1_0 : Nat) (l1_0 : List Int) (A1_1 : Option Addr) (c1_1 : Nat) (l1_1 : List Int) (A1_2 : Option Addr) (c1_2 : Nat) (l1_2 : List Bool) (A1_3 : Option Addr) (c1_3 : Nat) (l1_3 : List (List Bool)) (r : List (S50)) (w : World) (hr0_0 : Kd.C (Kd.int .i64) w A0_0 l0_0.length l0_0) (hc0_0 : l0_0.length ≤ c0_0) (hr0_1 : Kd.C (Kd.int .i64) w A0_1 l0_1.length l0_1) (hc0_1 : l0_1.length ≤ c0_1) (hr0_2 : Kd.C Kd.bool w A0_2 l0_2.length l0_2) (hc0_2 : l0_2.length ≤ c0_2) (hr0_3 : Kd.C (Kd.slice 4 Kd.bool) w A0_3 l0_3.length l0_3) (hc0_3 : l0_3.length ≤ c0_3) (hr1_0 : Kd.C (Kd.int .i64) w A1_0 l1_0.length l1_0) (hc1_0 : l1_0.length ≤ c1_0) (hr1_1 : Kd.C (Kd.int .i64) w A1_1 l1_1.length l1_1) (hc1_1 : l1_1.length ≤ c1_1) (hr1_2 : Kd.C Kd.bool w A1_2 l1_2.length l1_2) (hc1_2 : l1_2.length ≤ c1_2) (hr1_3 : Kd.C (Kd.slice 4 Kd.bool) w A1_3 l1_3.length l1_3) (hc1_3 : l1_3.length ≤ c1_3) (h : impl_changes.f k l0_0 l0_1 l0_2 l0_3 l1_0 l1_1 l1_2 l1_3 = some r) :
  Calls Try.prog 63 #[.agg #[.slice A0_0 l0_0.length c0_0,.slice A0_1 l0_1.length c0_1,.slice A0_2 l0_2.length c0_2,.slice A0_3 l0_3.length c0_3],.agg #[.slice A1_0 l1_0.length c1_0,.slice A1_1 l1_1.length c1_1,.slice A1_2 l1_2.length c1_2,.slice A1_3 l1_3.length c1_3]] w fun e w'=>∃ v0_ : Value,e = .returned (v0_)∧Kd.R k50 50 w' w.heap.size (fun _=>True) v0_ r∧Below w.heap.size w w':=by
 have hu27:=Try.underlying27;have hu50:=Try.underlying50;have HR0_0:=zm hr0_0;have HC0_0:=zm hc0_0;clear hr0_0 hc0_0;have HR0_1:=zm hr0_1;have HC0_1:=zm hc0_1;clear hr0_1 hc0_1;have HR0_2:=zm hr0_2;have HC0_2:=zm hc0_2;clear hr0_2 hc0_2;have HR0_3:=zm hr0_3;have HC0_3:=zm hc0_3;clear hr0_3 hc0_3;have HR1_0:=zm hr1_0;have HC1_0:=zm hc1_0;clear hr1_0 hc1_0;have HR1_1:=zm hr1_1;have HC1_1:=zm hc1_1;clear hr1_1 hc1_1;have HR1_2:=zm hr1_2;have HC1_2:=zm hc1_2;clear hr1_2 hc1_2;have HR1_3:=zm hr1_3;have HC1_3:=zm hc1_3;clear hr1_3 hc1_3;have HB:=zm (Below.refl w.heap.size w);have H : ((impl_Shows.f k l0_0 l0_1 l0_2 l0_3).bind fun t308=>((impl_Shows.f k l1_0 l1_1 l1_2 l1_3).bind fun t311=>(impl_changes.l0 k t308 t311 ([] : List (S50)) (t308.length : Int) 0))) = some r:=h
 clear h;replace H:=Option.bind_eq_some_iff.mp H;obtain ⟨t308,A30,H⟩:=H;replace H : ((impl_Shows.f k l1_0 l1_1 l1_2 l1_3).bind fun t311=>(impl_changes.l0 k t308 t311 ([] : List (S50)) (t308.length : Int) 0)) = some r:=H
 have A3:=zm A30;clear A30;replace H:=Option.bind_eq_some_iff.mp H;obtain ⟨t311,A40,H⟩:=H;replace H : (impl_changes.l0 k t308 t311 ([] : List (S50)) (t308.length : Int) 0) = some r:=H;have A4:=zm A40;clear A40;have H':=zm H;clear H;go_enter Try.func63,Try.ntmps63
 try go_wp2_with (first|((with_reducible refine zM (N:=2) rfl ?_);refine zN ?hg (N:=2) ?hd (cs:=#[.slice A0_0 l0_0.length c0_0,.slice A0_1 l0_1.length c0_1,.slice A0_2 l0_2.length c0_2,.slice A0_3 l0_3.length c0_3]) (t:=27) ?hr ?_;(case hd=>rfl);(case hg=>rfl);(case hr=>first|(go_simp;done)|(go_simp;rfl));intro gb306 hg w5 hbox hb;have n0_:=zm (zK (by repeat (first|(with_reducible first|exact HB.out|apply zA|apply zB|apply zC)|exact HB.out)) hb);have n1_:=zm (hbox);have n2_:=zm ((by rw [hg];exact (zJ (by repeat (first|(with_reducible first|exact HB.out|apply zA|apply zB|apply zC)|exact HB.out))) : w.heap.size ≤ gb306));have n3_:=zm ((by rw [hg];exact (zJ (by repeat (first|(with_reducible first|exact HB.out|apply zA|apply zB|apply zC)|exact HB.out))) : w.heap.size ≤ gb306));clear HB;have HB:=n0_;have BK306:=n1_;have GW306:=n2_;have GE306:=n3_;clear n0_ n1_ n2_ n3_;clear hb hbox hg)|((with_reducible refine zM (N:=3) rfl ?_);refine zN ?hg (N:=3) ?hd (cs:=#[.slice A1_0 l1_0.length c1_0,.slice A1_1 l1_1.length c1_1,.slice A1_2 l1_2.length c1_2,.slice A1_3 l1_3.length c1_3]) (t:=27) ?hr ?_;(case hd=>rfl);(case hg=>rfl);(case hr=>first|(go_simp;done)|(go_simp;rfl));intro gb307 hg w6 hbox hb;have n0_:=zm (zL (g:=gb306) (o:=.cells #[.slice A0_0 l0_0.length c0_0,.slice A0_1 l0_1.length c0_1,.slice A0_2 l0_2.length c0_2,.slice A0_3 l0_3.length c0_3] 27 (0,0)) (by (with_reducible repeat (first|refine zH ?_ _|refine zI ?_|refine zG ?_ _));exact BK306.out) hb);have n1_:=zm (zK (by repeat (first|(with_reducible first|exact HB.out|apply zA|apply zB|apply zC|refine zF ?_ GE306.out)|exact HB.out)) hb);have n2_:=zm (hbox);have n3_:=zm ((by rw [hg];exact (zJ (by repeat (first|(with_reducible first|exact HB.out|apply zA|apply zB|apply zC|refine zF ?_ GE306.out)|exact HB.out))) : w.heap.size ≤ gb307));have n4_:=zm ((by rw [hg];exact (zJ (by repeat (first|(with_reducible first|exact HB.out|apply zA|apply zB|apply zC|refine zF ?_ GE306.out)|exact HB.out))) : w.heap.size ≤ gb307));have n5_:=zm ((by rw [hg];exact Nat.ne_of_lt (blk_lt (g:=gb306) (o:=.cells #[.slice A0_0 l0_0.length c0_0,.slice A0_1 l0_1.length c0_1,.slice A0_2 l0_2.length c0_2,.slice A0_3 l0_3.length c0_3] 27 (0,0)) (by (with_reducible repeat (first|refine zH ?_ _|refine zI ?_|refine zG ?_ _));exact BK306.out)) : gb306 ≠ gb307));have n6_:=zm ((by rw [hg];exact Nat.ne_of_gt (blk_lt (g:=gb306) (o:=.cells #[.slice A0_0 l0_0.length c0_0,.slice A0_1 l0_1.length c0_1,.slice A0_2 l0_2.length c0_2,.slice A0_3 l0_3.length c0_3] 27 (0,0)) (by (with_reducible repeat (first|refine zH ?_ _|refine zI ?_|refine zG ?_ _));exact BK306.out)) : gb307 ≠ gb306));clear BK306;clear HB;have BK306:=n0_;have HB:=n1_;have BK307:=n2_;have GW307:=n3_;have GE307:=n4_;have NB306_307:=n5_;have NB307_306:=n6_;clear n0_ n1_ n2_ n3_ n4_ n5_ n6_;clear hb hbox hg))
 have n0_:=zm (zI BK306.out);have n1_:=zm (zI BK307.out);have n2_:=zm (zC HB.out);clear BK306;clear BK307;clear HB;have BK306:=n0_;have BK307:=n1_;have HB:=n2_;clear n0_ n1_ n2_;refine start_ (n:=6) (S:=fun w'=>w'.cell? ⟨gb306,0,none⟩ = some (.slice A0_0 l0_0.length c0_0)∧w'.cell? ⟨gb306,1,none⟩ = some (.slice A0_1 l0_1.length c0_1)∧w'.cell? ⟨gb306,2,none⟩ = some (.slice A0_2 l0_2.length c0_2)∧w'.cell? ⟨gb306,3,none⟩ = some (.slice A0_3 l0_3.length c0_3)∧w'.cell? ⟨gb307,0,none⟩ = some (.slice A1_0 l1_0.length c1_0)∧w'.cell? ⟨gb307,1,none⟩ = some (.slice A1_1 l1_1.length c1_1)∧w'.cell? ⟨gb307,2,none⟩ = some (.slice A1_2 l1_2.length c1_2)∧w'.cell? ⟨gb307,3,none⟩ = some (.slice A1_3 l1_3.length c1_3)) (ds:=[]) #[n',n',n',n',n',n'] (by kernel_rfl) rfl rfl ⟨(zD BK306.out 0).trans rfl,(zD BK306.out 1).trans rfl,(zD BK306.out 2).trans rfl,(zD BK306.out 3).trans rfl,(zD BK307.out 0).trans rfl,(zD BK307.out 1).trans rfl,(zD BK307.out 2).trans rfl,(zD BK307.out 3).trans rfl⟩ (fun hHeld=>?_)
 generalize w6.drew = w7 at BK306 BK307 HB hHeld ⊢
 refine take_ (i:=0) (N:=some 9) (v:=?_) (a':=?_) #[y',n',n',n',n',n'] rfl rfl (by kernel_rfl) (fun _ _ _ h=>h) (Or.inl ⟨by rfl,?_⟩) hHeld ?_ ?_
 rotate_left
 ·rintro w' ⟨s0,s1,s2,s3,s4,s5,s6,s7⟩
  go_simp
  with_reducible rfl
 rotate_left
 ·simp only [Act.put,List.setIfInBounds_toArray,List.set_cons_zero,List.set_cons_succ,i64_w,i32_w]
  rfl
 refine take_ (i:=2) (N:=some 11) (v:=?_) (a':=?_) #[y',n',y',n',n',n'] rfl rfl (by kernel_rfl) (fun _ _ _ h=>h) (Or.inl ⟨by rfl,?_⟩) hHeld ?_ ?_
 rotate_left
 ·rintro w' ⟨s0,s1,s2,s3,s4,s5,s6,s7⟩
  go_simp
  with_reducible rfl
 rotate_left
 ·simp only [Act.put,List.setIfInBounds_toArray,List.set_cons_zero,List.set_cons_succ,i64_w,i32_w]
  rfl
 refine one_ (i:=1) (N:=some 10) #[y',y',y',n',n',n'] rfl rfl (by kernel_rfl) (by decide) (fun K hK=>?_)
 refine goes_ Try.func16 (by kernel_rfl) rfl #[.agg #[.slice A0_0 l0_0.length c0_0,.slice A0_1 l0_1.length c0_1,.slice A0_2 l0_2.length c0_2,.slice A0_3 l0_3.length c0_3]] (by rfl) rfl rfl (by (try simp only [List.map_toArray,List.map_cons,List.map_nil]);first|done|rfl|(simp only [List.length_drop,List.length_take];rfl)) ?_
 with_reducible refine (impl_Shows.calls k _ _ l0_0 _ _ l0_1 _ _ l0_2 _ _ l0_3 t308 _ ?side1 ?side2 ?side3 ?side4 ?side5 ?side6 ?side7 ?side8 A3.out).mono ?_
 (case side1=>repeat (first|exact (zY HR0_0.out HB.out)|(with_reducible refine zT ?_ _)|(with_reducible refine zU ?_ _)|(with_reducible refine zV ?_)))
 (case side2=>exact HC0_0.out)
 (case side3=>repeat (first|exact (zY HR0_1.out HB.out)|(with_reducible refine zT ?_ _)|(with_reducible refine zU ?_ _)|(with_reducible refine zV ?_)))
 (case side4=>exact HC0_1.out)
 (case side5=>repeat (first|exact (zY HR0_2.out HB.out)|(with_reducible refine zT ?_ _)|(with_reducible refine zU ?_ _)|(with_reducible refine zV ?_)))
 (case side6=>exact HC0_2.out)
 (case side7=>repeat (first|exact (zY HR0_3.out HB.out)|(with_reducible refine zT ?_ _)|(with_reducible refine zU ?_ _)|(with_reducible refine zV ?_)))
 (case side8=>exact HC0_3.out)
 rintro e w8 ⟨v309,rfl,ho0,hb⟩
 refine ⟨_,rfl,?_⟩
 have n0_:=zm (zZ ho0 (zJ (by repeat (first|(with_reducible first|exact HB.out|apply zA|apply zB|apply zC|refine zF ?_ GE306.out|refine zF ?_ GE307.out)|exact HB.out))))
 have n1_:=zm (zL (g:=gb306) (o:=.cells #[.slice A0_0 l0_0.length c0_0,.slice A0_1 l0_1.length c0_1,.slice A0_2 l0_2.length c0_2,.slice A0_3 l0_3.length c0_3] 27 (0,0)) (by (with_reducible repeat (first|refine zH ?_ _|refine zI ?_|refine zG ?_ _));exact BK306.out) hb)
 have n2_:=zm (zL (g:=gb307) (o:=.cells #[.slice A1_0 l1_0.length c1_0,.slice A1_1 l1_1.length c1_1,.slice A1_2 l1_2.length c1_2,.slice A1_3 l1_3.length c1_3] 27 (0,0)) (by (with_reducible repeat (first|refine zH ?_ _|refine zI ?_|refine zG ?_ _));exact BK307.out) hb)
 have n3_:=zm (zK (by repeat (first|(with_reducible first|exact HB.out|apply zA|apply zB|apply zC|refine zF ?_ GE306.out|refine zF ?_ GE307.out)|exact HB.out)) hb)
 clear BK306;clear BK307;clear HB;have HO310:=n0_;have BK306:=n1_;have BK307:=n2_;have HB:=n3_;clear n0_ n1_ n2_ n3_;(try clear hb);(try clear hb2);(try clear hk);(try clear hi);(try clear ho0);refine hK.out _ _ ⟨(zD BK306.out 0).trans rfl,(zD BK306.out 1).trans rfl,(zD BK306.out 2).trans rfl,(zD BK306.out 3).trans rfl,(zD BK307.out 0).trans rfl,(zD BK307.out 1).trans rfl,(zD BK307.out 2).trans rfl,(zD BK307.out 3).trans rfl⟩ (fun hHeld=>?_)
 clear hK K;refine norm_ (a':=?_) ?_ ?_
 rotate_left
 ·show Act.put _ (some 10) _ = _
  simp only [Act.put,List.setIfInBounds_toArray,List.set_cons_zero,List.set_cons_succ,i64_w,i32_w]
  rfl
 refine one_ (i:=3) (N:=some 12) #[y',y',y',y',n',n'] rfl rfl (by kernel_rfl) (by decide) (fun K hK=>?_)
 refine goes_ Try.func16 (by kernel_rfl) rfl #[.agg #[.slice A1_0 l1_0.length c1_0,.slice A1_1 l1_1.length c1_1,.slice A1_2 l1_2.length c1_2,.slice A1_3 l1_3.length c1_3]] (by rfl) rfl rfl (by (try simp only [List.map_toArray,List.map_cons,List.map_nil]);first|done|rfl|(simp only [List.length_drop,List.length_take];rfl)) ?_
 with_reducible refine (impl_Shows.calls k _ _ l1_0 _ _ l1_1 _ _ l1_2 _ _ l1_3 t311 _ ?side1 ?side2 ?side3 ?side4 ?side5 ?side6 ?side7 ?side8 A4.out).mono ?_
 (case side1=>repeat (first|exact (zY HR1_0.out HB.out)|(with_reducible refine zT ?_ _)|(with_reducible refine zU ?_ _)|(with_reducible refine zV ?_)))
 (case side2=>exact HC1_0.out)
 (case side3=>repeat (first|exact (zY HR1_1.out HB.out)|(with_reducible refine zT ?_ _)|(with_reducible refine zU ?_ _)|(with_reducible refine zV ?_)))
 (case side4=>exact HC1_1.out)
 (case side5=>repeat (first|exact (zY HR1_2.out HB.out)|(with_reducible refine zT ?_ _)|(with_reducible refine zU ?_ _)|(with_reducible refine zV ?_)))
 (case side6=>exact HC1_2.out)
 (case side7=>repeat (first|exact (zY HR1_3.out HB.out)|(with_reducible refine zT ?_ _)|(with_reducible refine zU ?_ _)|(with_reducible refine zV ?_)))
 (case side8=>exact HC1_3.out)
 rintro e w9 ⟨v312,rfl,ho0,hb⟩
 refine ⟨_,rfl,?_⟩
 have n0_:=zm (zGb (by (with_reducible repeat (first|apply zP|apply zQ|apply zR));exact HO310.out) (zCb ho0) hb)
 have n1_:=zm (zZ (Kd.R_new' ho0 (Kd.R_lt (by (with_reducible repeat (first|apply zP|apply zQ|apply zR));exact HO310.out))) (zJ (by repeat (first|(with_reducible first|exact HB.out|apply zA|apply zB|apply zC|refine zF ?_ GE306.out|refine zF ?_ GE307.out)|exact HB.out))))
 have n2_:=zm (zL (g:=gb306) (o:=.cells #[.slice A0_0 l0_0.length c0_0,.slice A0_1 l0_1.length c0_1,.slice A0_2 l0_2.length c0_2,.slice A0_3 l0_3.length c0_3] 27 (0,0)) (by (with_reducible repeat (first|refine zH ?_ _|refine zI ?_|refine zG ?_ _));exact BK306.out) hb)
 have n3_:=zm (zL (g:=gb307) (o:=.cells #[.slice A1_0 l1_0.length c1_0,.slice A1_1 l1_1.length c1_1,.slice A1_2 l1_2.length c1_2,.slice A1_3 l1_3.length c1_3] 27 (0,0)) (by (with_reducible repeat (first|refine zH ?_ _|refine zI ?_|refine zG ?_ _));exact BK307.out) hb)
 have n4_:=zm (zK (by repeat (first|(with_reducible first|exact HB.out|apply zA|apply zB|apply zC|refine zF ?_ GE306.out|refine zF ?_ GE307.out)|exact HB.out)) hb)
 clear HO310;clear BK306;clear BK307;clear HB;have HO310:=n0_;have HO313:=n1_;have BK306:=n2_;have BK307:=n3_;have HB:=n4_;clear n0_ n1_ n2_ n3_ n4_;(try clear hb);(try clear hb2);(try clear hk);(try clear hi);(try clear ho0);refine hK.out _ _ ⟨(zD BK306.out 0).trans rfl,(zD BK306.out 1).trans rfl,(zD BK306.out 2).trans rfl,(zD BK306.out 3).trans rfl,(zD BK307.out 0).trans rfl,(zD BK307.out 1).trans rfl,(zD BK307.out 2).trans rfl,(zD BK307.out 3).trans rfl⟩ (fun hHeld=>?_)
 clear hK K;refine norm_ (a':=?_) ?_ ?_
 rotate_left
 ·show Act.put _ (some 12) _ = _
  simp only [Act.put,List.setIfInBounds_toArray,List.set_cons_zero,List.set_cons_succ,i64_w,i32_w]
  rfl
 refine pure_ (i:=4) (N:=some 5) (v:=?_) (a':=?_) #[y',y',y',y',y',n'] rfl rfl (by kernel_rfl) (fun _ _ _ h=>h) (Or.inl ⟨by rfl,?_⟩) ?_ ?_
 rotate_left
 ·intro w'
  go_simp
  with_reducible rfl
 rotate_left
 ·simp only [Act.put,List.setIfInBounds_toArray,List.set_cons_zero,List.set_cons_succ,i64_w,i32_w]
  rfl
 refine pure_ (i:=5) (N:=some 6) (v:=?_) (a':=?_) #[y',y',y',y',y',y'] rfl rfl (by kernel_rfl) (fun _ _ _ h=>h) (Or.inl ⟨by rfl,?_⟩) ?_ ?_
 rotate_left
 ·intro w'
  go_simp
  with_reducible rfl
 rotate_left
 ·simp only [Act.put,List.setIfInBounds_toArray,List.set_cons_zero,List.set_cons_succ,i64_w,i32_w]
  rfl
 refine done_ (by kernel_rfl) ?_
 obtain ⟨Ao10,co10,eo10⟩:=zAb HO310.out;subst eo10
 try go_wp2
 go_loopg [7,15] k (fun kq v7 v15 w'=>∃ (x7_1 : List (S50)) (x15_1 : Int),v15 = .int .i64 x15_1∧Aside0 (impl_changes.l0 kq t308 t311 x7_1 (t308.length : Int) x15_1 = some r)∧Aside0 (kq ≤ k)∧Aside0 (Kd.R (Kd.int .i64) 3 w' w.heap.size (fun k_=>some k_ ≠ (v312 : Value).ownBlock) (.slice Ao10 t308.length co10) t308)∧Aside0 (Kd.R (Kd.int .i64) 3 w' w.heap.size (fun k_=>some k_ ≠ ((.slice Ao10 t308.length co10) : Value).ownBlock) v312 t311)∧Aside0 (Kd.R k50 50 w' w.heap.size (fun _=>True) v7 x7_1)∧Aside0 (w'.heap[gb306]? = some (.cells #[(.slice A0_0 l0_0.length c0_0),(.slice A0_1 l0_1.length c0_1),(.slice A0_2 l0_2.length c0_2),(.slice A0_3 l0_3.length c0_3)] 27 (0,0)))∧Aside0 (w'.heap[gb307]? = some (.cells #[(.slice A1_0 l1_0.length c1_0),(.slice A1_1 l1_1.length c1_1),(.slice A1_2 l1_2.length c1_2),(.slice A1_3 l1_3.length c1_3)] 27 (0,0)))∧Aside0 (Below w.heap.size w w'))
 case atStart=>exact ⟨(([] : List (S50))),(0),(by first|rfl|(simp;done)|(simp [*];done)),H',⟨Nat.le_refl _⟩,⟨by (with_reducible repeat (first|apply zP|apply zQ|apply zR));exact zS HO310.out (fun _ hk=>hk.2)⟩,⟨by (with_reducible repeat (first|apply zP|apply zQ|apply zR));exact zS HO313.out (fun _ hk=>hk.2)⟩,⟨by first|exact Kd.R_nil _ _ _ _ _|exact Kd.N_nil _ _ _ _ _|exact Kd.V_nil _ _ _ _ _|exact Kd.Q_nil _ _ _ _ _|exact Kd.S_nil _ _ _ _ _⟩,⟨by (with_reducible repeat (first|refine zH ?_ _|refine zI ?_|refine zG ?_ _));exact BK306.out⟩,⟨by (with_reducible repeat (first|refine zH ?_ _|refine zI ?_|refine zG ?_ _));exact BK307.out⟩,⟨by repeat (first|(with_reducible first|exact HB.out|apply zA|apply zB|apply zC|refine zF ?_ GE306.out|refine zF ?_ GE307.out)|exact HB.out)⟩⟩
 case round =>
  clear H';(try clear c1);(try clear p2);(try clear c6);obtain ⟨x7_1,x15_1,rfl,HA,HK1,HO_5,HO_6,HO_7,BK306,BK307,HB⟩:=hrel;cases gk with
  | zero=>exact absurd HA.out (by simp [impl_changes.l0])
  | succ k1 =>
   have H:=HA.out;clear HA;simp only [impl_changes.l0] at H
   by_cases c11 : x15_1 < (t308.length : Int)
   ·rw [if_pos c11] at H;have c11b0 : decide (x15_1 < (t308.length : Int)) = true:=decide_eq_true c11;clear c11;by_cases c12 : 0 ≤ x15_1
    ·rw [if_pos c12] at H;have c12b0 : decide (0 ≤ x15_1) = true:=decide_eq_true c12;clear c12;by_cases c13 : x15_1 < (t308.length : Int)
     ·rw [if_pos c13] at H;have c13b0 : decide (x15_1 < (t308.length : Int)) = true:=decide_eq_true c13;clear c13;by_cases c14 : x15_1 < (t311.length : Int)
      ·rw [if_pos c14] at H;have c14b0 : decide (x15_1 < (t311.length : Int)) = true:=decide_eq_true c14;clear c14;by_cases c15 : (rd t308 x15_1) = (rd t311 x15_1)
       ·rw [if_pos c15] at H;have c15b0 : ((rd t308 x15_1) == (rd t311 x15_1)) = true:=beq_iff_eq.mpr c15;have c15b1 : ((rd t308 x15_1) != (rd t311 x15_1)) = false:=bne_eq_false_iff_eq.mpr c15;clear c15;have H':=zm H;clear H;try go_wp2
        have n0_:=zm (zR HO_5.out);have n1_:=zm (zR HO_6.out);have n2_:=zm (zR HO_7.out);have n3_:=zm (zI BK306.out);have n4_:=zm (zI BK307.out);have n5_:=zm (zC HB.out);clear HO_5;clear HO_6;clear HO_7;clear BK306;clear BK307;clear HB;have HO_5:=n0_;have HO_6:=n1_;have HO_7:=n2_;have BK306:=n3_;have BK307:=n4_;have HB:=n5_;clear n0_ n1_ n2_ n3_ n4_ n5_;have p314 : 0 ≤ (x15_1 : Int):=of_decide_eq_true (by first|(with_reducible assumption)|assumption)
        have q314 : x15_1 < (t308.length : Int):=of_decide_eq_true (by first|(with_reducible assumption)|assumption)
        obtain ⟨ad314,e314,hx314_0⟩:=Kd.at_int (zW HO_5.out).2.2 x15_1 p314 q314;cases e314;replace p314:=eq_true p314;replace q314:=eq_true q314;obtain ⟨Ao17,co17,eo17⟩:=zAb HO_6.out;(first|subst eo17|(injection eo17 with f1_ f2_ f3_;have f4_:=f1_.symm;have f5_:=f3_.symm;clear f1_ f2_ f3_;subst f4_;subst f5_))
        have p315 : 0 ≤ (x15_1 : Int):=of_decide_eq_true (by first|(with_reducible assumption)|assumption)
        have q315 : x15_1 < (t311.length : Int):=of_decide_eq_true (by first|(with_reducible assumption)|assumption)
        obtain ⟨ad315,e315,hx315_0⟩:=Kd.at_int (zW HO_6.out).2.2 x15_1 p315 q315;cases e315;replace p315:=eq_true p315;replace q315:=eq_true q315;refine start_ (n:=9) (S:=fun w'=>w'.cell? (ad314.add (x15_1).toNat) = some (.int .i64 (rd t308 x15_1))∧w'.cell? (ad315.add (x15_1).toNat) = some (.int .i64 (rd t311 x15_1))) (ds:=[]) #[n',n',n',n',n',n',n',n',n'] (by kernel_rfl) rfl rfl ⟨hx314_0,hx315_0⟩ (fun hHeld=>?_);refine with_tabW impl_changes.tab6 impl_changes.bits6 (fun HT_ HW_=>?_)
        generalize wr.drew = w16 at HO_5 HO_6 HO_7 BK306 BK307 HB hx314_0 hx315_0 hHeld ⊢
        refine pure_ (i:=0) (N:=some 18) (v:=?_) (a':=?_) #[y',n',n',n',n',n',n',n',n'] rfl rfl (any_of HT_.out (by kernel_rfl)) (fun _ _ _ h=>h) (Or.inl ⟨by rfl,?_⟩) ?_ ?_
        rotate_left
        ·intro w'
         go_simp
         with_reducible rfl
        rotate_left
        ·simp only [Act.put,List.setIfInBounds_toArray,List.set_cons_zero,List.set_cons_succ,i64_w,i32_w]
         rfl
        refine pure_ (i:=1) (N:=some 19) (v:=?_) (a':=?_) #[y',y',n',n',n',n',n',n',n'] rfl rfl (any_of HT_.out (by kernel_rfl)) (fun _ _ _ h=>h) (Or.inl ⟨by rfl,?_⟩) ?_ ?_
        rotate_left
        ·intro w'
         go_simp
         with_reducible rfl
        rotate_left
        ·simp only [Act.put,List.setIfInBounds_toArray,List.set_cons_zero,List.set_cons_succ,i64_w,i32_w]
         rfl
        refine pure_ (i:=2) (N:=some 20) (v:=?_) (a':=?_) #[y',y',y',n',n',n',n',n',n'] rfl rfl (any_of HT_.out (by kernel_rfl)) (fun _ _ _ h=>h) (Or.inl ⟨by rfl,?_⟩) ?_ ?_
        rotate_left
        ·intro w'
         go_simp
         with_reducible rfl
        rotate_left
        ·simp only [Act.put,List.setIfInBounds_toArray,List.set_cons_zero,List.set_cons_succ,i64_w,i32_w]
         rfl
        refine pure_ (i:=4) (N:=some 22) (v:=?_) (a':=?_) #[y',y',y',n',y',n',n',n',n'] rfl rfl (any_of HT_.out (by kernel_rfl)) (fun _ _ _ h=>h) (Or.inl ⟨by rfl,?_⟩) ?_ ?_
        rotate_left
        ·intro w'
         go_simp
         with_reducible rfl
        rotate_left
        ·simp only [Act.put,List.setIfInBounds_toArray,List.set_cons_zero,List.set_cons_succ,i64_w,i32_w]
         rfl
        refine pure_ (i:=5) (N:=some 23) (v:=?_) (a':=?_) #[y',y',y',n',y',y',n',n',n'] rfl rfl (any_of HT_.out (by kernel_rfl)) (fun _ _ _ h=>h) (Or.inl ⟨by rfl,?_⟩) ?_ ?_
        rotate_left
        ·intro w'
         go_simp
         with_reducible rfl
        rotate_left
        ·simp only [Act.put,List.setIfInBounds_toArray,List.set_cons_zero,List.set_cons_succ,i64_w,i32_w]
         rfl
        refine pure_ (i:=6) (N:=some 24) (v:=?_) (a':=?_) #[y',y',y',n',y',y',y',n',n'] rfl rfl (any_of HT_.out (by kernel_rfl)) (fun _ _ _ h=>h) (Or.inl ⟨by rfl,?_⟩) ?_ ?_
        rotate_left
        ·intro w'
         go_simp
         with_reducible rfl
        rotate_left
        ·simp only [Act.put,List.setIfInBounds_toArray,List.set_cons_zero,List.set_cons_succ,i64_w,i32_w]
         rfl
        refine take_ (i:=3) (N:=some 21) (v:=?_) (a':=?_) #[y',y',y',y',y',y',y',n',n'] rfl rfl (take_ofW HT_.out HW_.out (by kernel_rfl)) (fun _ _ _ h=>h) (Or.inl ⟨by rfl,?_⟩) hHeld ?_ ?_
        rotate_left
        ·rintro w' ⟨s0,s1⟩
         go_simp
         with_reducible rfl
        rotate_left
        ·simp only [Act.put,List.setIfInBounds_toArray,List.set_cons_zero,List.set_cons_succ,i64_w,i32_w]
         rfl
        refine take_ (i:=7) (N:=some 25) (v:=?_) (a':=?_) #[y',y',y',y',y',y',y',y',n'] rfl rfl (take_ofW HT_.out HW_.out (by kernel_rfl)) (fun _ _ _ h=>h) (Or.inl ⟨by rfl,?_⟩) hHeld ?_ ?_
        rotate_left
        ·rintro w' ⟨s0,s1⟩
         go_simp
         with_reducible rfl
        rotate_left
        ·simp only [Act.put,List.setIfInBounds_toArray,List.set_cons_zero,List.set_cons_succ,i64_w,i32_w]
         rfl
        refine pure_ (i:=8) (N:=some 26) (v:=?_) (a':=?_) #[y',y',y',y',y',y',y',y',y'] rfl rfl (any_of HT_.out (by kernel_rfl)) (fun _ _ _ h=>h) (Or.inl ⟨by rfl,?_⟩) ?_ ?_
        rotate_left
        ·intro w'
         go_simp
         with_reducible rfl
        rotate_left
        ·simp only [Act.put,List.setIfInBounds_toArray,List.set_cons_zero,List.set_cons_succ,i64_w,i32_w]
         rfl
        refine done_ (done_of HT_.out (by kernel_rfl)) ?_
        try go_wp2
        go_roundg k1
        case measure=>have:=HK1.out;omega
        case rel=>exact ⟨(x7_1),(wrap64 (x15_1 + 1)),(by first|rfl|(simp;done)|(simp [*];done)),H',⟨by have:=HK1.out;omega⟩,⟨by (with_reducible repeat (first|apply zP|apply zQ|apply zR));exact HO_5.out⟩,⟨by (with_reducible repeat (first|apply zP|apply zQ|apply zR));exact HO_6.out⟩,⟨by (with_reducible repeat (first|apply zP|apply zQ|apply zR));exact HO_7.out⟩,⟨by (with_reducible repeat (first|refine zH ?_ _|refine zI ?_|refine zG ?_ _));exact BK306.out⟩,⟨by (with_reducible repeat (first|refine zH ?_ _|refine zI ?_|refine zG ?_ _));exact BK307.out⟩,⟨by repeat (first|(with_reducible first|exact HB.out|apply zA|apply zB|apply zC|refine zF ?_ GE306.out|refine zF ?_ GE307.out)|exact HB.out)⟩⟩
       ·rw [if_neg c15] at H;have c15b0 : ((rd t308 x15_1) == (rd t311 x15_1)) = false:=beq_eq_false_iff_ne.mpr c15;have c15b1 : ((rd t308 x15_1) != (rd t311 x15_1)) = true:=bne_iff_ne.mpr c15;by_cases c18 : x7_1.length < 5864062014805
        ·rw [if_pos c18] at H;have LMc18:=zm c18;clear c18;obtain ⟨y318,hy318⟩ : ∃ y_ : List (S50),y_ = (x7_1 ++ [(⟨x15_1,rd t308 x15_1,rd t311 x15_1⟩ : S50)]):=⟨_,rfl⟩;replace H : (impl_changes.l0 k1 t308 t311 y318 (t308.length : Int) (wrap64 (x15_1 + 1))) = some r:=by first|(rw [hy318];with_reducible exact H)|(have H2_:=(Option.bind_some _ _).symm.trans H;rw [hy318];with_reducible exact H2_)|(have H2_:=(Option.bind_some _ _).symm.trans H;with_reducible exact H2_)|with_reducible exact H|(rw [hy318];exact H)|exact H
         have Ny318:=zm hy318;clear hy318;have H':=zm H;clear H;try go_wp2
         have n0_:=zm (zR HO_5.out);have n1_:=zm (zR HO_6.out);have n2_:=zm (zR HO_7.out);have n3_:=zm (zI BK306.out);have n4_:=zm (zI BK307.out);have n5_:=zm (zC HB.out);clear HO_5;clear HO_6;clear HO_7;clear BK306;clear BK307;clear HB;have HO_5:=n0_;have HO_6:=n1_;have HO_7:=n2_;have BK306:=n3_;have BK307:=n4_;have HB:=n5_;clear n0_ n1_ n2_ n3_ n4_ n5_;have p314 : 0 ≤ (x15_1 : Int):=of_decide_eq_true (by first|(with_reducible assumption)|assumption)
         have q314 : x15_1 < (t308.length : Int):=of_decide_eq_true (by first|(with_reducible assumption)|assumption)
         obtain ⟨ad314,e314,hx314_0⟩:=Kd.at_int (zW HO_5.out).2.2 x15_1 p314 q314;cases e314;replace p314:=eq_true p314;replace q314:=eq_true q314;obtain ⟨Ao20,co20,eo20⟩:=zAb HO_6.out;(first|subst eo20|(injection eo20 with f1_ f2_ f3_;have f4_:=f1_.symm;have f5_:=f3_.symm;clear f1_ f2_ f3_;subst f4_;subst f5_))
         have p315 : 0 ≤ (x15_1 : Int):=of_decide_eq_true (by first|(with_reducible assumption)|assumption)
         have q315 : x15_1 < (t311.length : Int):=of_decide_eq_true (by first|(with_reducible assumption)|assumption)
         obtain ⟨ad315,e315,hx315_0⟩:=Kd.at_int (zW HO_6.out).2.2 x15_1 p315 q315;cases e315;replace p315:=eq_true p315;replace q315:=eq_true q315;refine start_ (n:=9) (S:=fun w'=>w'.cell? (ad314.add (x15_1).toNat) = some (.int .i64 (rd t308 x15_1))∧w'.cell? (ad315.add (x15_1).toNat) = some (.int .i64 (rd t311 x15_1))) (ds:=[]) #[n',n',n',n',n',n',n',n',n'] (by kernel_rfl) rfl rfl ⟨hx314_0,hx315_0⟩ (fun hHeld=>?_);refine with_tabW impl_changes.tab6 impl_changes.bits6 (fun HT_ HW_=>?_)
         generalize wr.drew = w19 at HO_5 HO_6 HO_7 BK306 BK307 HB hx314_0 hx315_0 hHeld ⊢
         refine pure_ (i:=0) (N:=some 18) (v:=?_) (a':=?_) #[y',n',n',n',n',n',n',n',n'] rfl rfl (any_of HT_.out (by kernel_rfl)) (fun _ _ _ h=>h) (Or.inl ⟨by rfl,?_⟩) ?_ ?_
         rotate_left
         ·intro w'
          go_simp
          with_reducible rfl
         rotate_left
         ·simp only [Act.put,List.setIfInBounds_toArray,List.set_cons_zero,List.set_cons_succ,i64_w,i32_w]
          rfl
         refine pure_ (i:=1) (N:=some 19) (v:=?_) (a':=?_) #[y',y',n',n',n',n',n',n',n'] rfl rfl (any_of HT_.out (by kernel_rfl)) (fun _ _ _ h=>h) (Or.inl ⟨by rfl,?_⟩) ?_ ?_
         rotate_left
         ·intro w'
          go_simp
          with_reducible rfl
         rotate_left
         ·simp only [Act.put,List.setIfInBounds_toArray,List.set_cons_zero,List.set_cons_succ,i64_w,i32_w]
          rfl
         refine pure_ (i:=2) (N:=some 20) (v:=?_) (a':=?_) #[y',y',y',n',n',n',n',n',n'] rfl rfl (any_of HT_.out (by kernel_rfl)) (fun _ _ _ h=>h) (Or.inl ⟨by rfl,?_⟩) ?_ ?_
         rotate_left
         ·intro w'
          go_simp
          with_reducible rfl
         rotate_left
         ·simp only [Act.put,List.setIfInBounds_toArray,List.set_cons_zero,List.set_cons_succ,i64_w,i32_w]
          rfl
         refine pure_ (i:=4) (N:=some 22) (v:=?_) (a':=?_) #[y',y',y',n',y',n',n',n',n'] rfl rfl (any_of HT_.out (by kernel_rfl)) (fun _ _ _ h=>h) (Or.inl ⟨by rfl,?_⟩) ?_ ?_
         rotate_left
         ·intro w'
          go_simp
          with_reducible rfl
         rotate_left
         ·simp only [Act.put,List.setIfInBounds_toArray,List.set_cons_zero,List.set_cons_succ,i64_w,i32_w]
          rfl
         refine pure_ (i:=5) (N:=some 23) (v:=?_) (a':=?_) #[y',y',y',n',y',y',n',n',n'] rfl rfl (any_of HT_.out (by kernel_rfl)) (fun _ _ _ h=>h) (Or.inl ⟨by rfl,?_⟩) ?_ ?_
         rotate_left
         ·intro w'
          go_simp
          with_reducible rfl
         rotate_left
         ·simp only [Act.put,List.setIfInBounds_toArray,List.set_cons_zero,List.set_cons_succ,i64_w,i32_w]
          rfl
         refine pure_ (i:=6) (N:=some 24) (v:=?_) (a':=?_) #[y',y',y',n',y',y',y',n',n'] rfl rfl (any_of HT_.out (by kernel_rfl)) (fun _ _ _ h=>h) (Or.inl ⟨by rfl,?_⟩) ?_ ?_
         rotate_left
         ·intro w'
          go_simp
          with_reducible rfl
         rotate_left
         ·simp only [Act.put,List.setIfInBounds_toArray,List.set_cons_zero,List.set_cons_succ,i64_w,i32_w]
          rfl
         refine take_ (i:=3) (N:=some 21) (v:=?_) (a':=?_) #[y',y',y',y',y',y',y',n',n'] rfl rfl (take_ofW HT_.out HW_.out (by kernel_rfl)) (fun _ _ _ h=>h) (Or.inl ⟨by rfl,?_⟩) hHeld ?_ ?_
         rotate_left
         ·rintro w' ⟨s0,s1⟩
          go_simp
          with_reducible rfl
         rotate_left
         ·simp only [Act.put,List.setIfInBounds_toArray,List.set_cons_zero,List.set_cons_succ,i64_w,i32_w]
          rfl
         refine take_ (i:=7) (N:=some 25) (v:=?_) (a':=?_) #[y',y',y',y',y',y',y',y',n'] rfl rfl (take_ofW HT_.out HW_.out (by kernel_rfl)) (fun _ _ _ h=>h) (Or.inl ⟨by rfl,?_⟩) hHeld ?_ ?_
         rotate_left
         ·rintro w' ⟨s0,s1⟩
          go_simp
          with_reducible rfl
         rotate_left
         ·simp only [Act.put,List.setIfInBounds_toArray,List.set_cons_zero,List.set_cons_succ,i64_w,i32_w]
          rfl
         refine pure_ (i:=8) (N:=some 26) (v:=?_) (a':=?_) #[y',y',y',y',y',y',y',y',y'] rfl rfl (any_of HT_.out (by kernel_rfl)) (fun _ _ _ h=>h) (Or.inl ⟨by rfl,?_⟩) ?_ ?_
         rotate_left
         ·intro w'
          go_simp
          with_reducible rfl
         rotate_left
         ·simp only [Act.put,List.setIfInBounds_toArray,List.set_cons_zero,List.set_cons_succ,i64_w,i32_w]
          rfl
         refine done_ (done_of HT_.out (by kernel_rfl)) ?_
         try go_wp2
         have n0_:=zm (zR HO_5.out);have n1_:=zm (zR HO_6.out);have n2_:=zm (zR HO_7.out);have n3_:=zm (zI BK306.out);have n4_:=zm (zI BK307.out);have n5_:=zm (zC HB.out);clear HO_5;clear HO_6;clear HO_7;clear BK306;clear BK307;clear HB;have HO_5:=n0_;have HO_6:=n1_;have HO_7:=n2_;have BK306:=n3_;have BK307:=n4_;have HB:=n5_;clear n0_ n1_ n2_ n3_ n4_ n5_;have p316 : 0 ≤ (x15_1 : Int):=of_decide_eq_true (by first|(with_reducible assumption)|assumption)
         have q316 : x15_1 < (t308.length : Int):=of_decide_eq_true (by first|(with_reducible assumption)|assumption)
         obtain ⟨ad316,e316,hx316_0⟩:=Kd.at_int (zW HO_5.out).2.2 x15_1 p316 q316;obtain rfl : ad314 = ad316:=(by injection e316)
         replace p316:=eq_true p316;replace q316:=eq_true q316;have p317 : 0 ≤ (x15_1 : Int):=of_decide_eq_true (by first|(with_reducible assumption)|assumption)
         have q317 : x15_1 < (t311.length : Int):=of_decide_eq_true (by first|(with_reducible assumption)|assumption)
         obtain ⟨ad317,e317,hx317_0⟩:=Kd.at_int (zW HO_6.out).2.2 x15_1 p317 q317;obtain rfl : ad315 = ad317:=(by injection e317)
         replace p317:=eq_true p317;replace q317:=eq_true q317;refine start_ (n:=14) (S:=fun w'=>w'.cell? (ad314.add (x15_1).toNat) = some (.int .i64 (rd t308 x15_1))∧w'.cell? (ad315.add (x15_1).toNat) = some (.int .i64 (rd t311 x15_1))) (ds:=[11,12]) #[n',n',n',n',n',n',n',n',n',n',n',n',n',n'] (by kernel_rfl) rfl rfl ⟨hx316_0,hx317_0⟩ (fun hHeld=>?_);refine with_tabW impl_changes.tab7 impl_changes.bits7 (fun HT_ HW_=>?_)
         generalize w19.drew = w21 at HO_5 HO_6 HO_7 BK306 BK307 HB hx316_0 hx317_0 hHeld ⊢
         refine pure_ (i:=0) (N:=some 27) (v:=?_) (a':=?_) #[y',n',n',n',n',n',n',n',n',n',n',n',n',n'] rfl rfl (any_of HT_.out (by kernel_rfl)) (fun _ _ _ h=>h) (Or.inl ⟨by rfl,?_⟩) ?_ ?_
         rotate_left
         ·intro w'
          go_simp
          with_reducible rfl
         rotate_left
         ·simp only [Act.put,List.setIfInBounds_toArray,List.set_cons_zero,List.set_cons_succ,i64_w,i32_w]
          rfl
         refine pure_ (i:=1) (N:=some 28) (v:=?_) (a':=?_) #[y',y',n',n',n',n',n',n',n',n',n',n',n',n'] rfl rfl (any_of HT_.out (by kernel_rfl)) (fun _ _ _ h=>h) (Or.inl ⟨by rfl,?_⟩) ?_ ?_
         rotate_left
         ·intro w'
          go_simp
          with_reducible rfl
         rotate_left
         ·simp only [Act.put,List.setIfInBounds_toArray,List.set_cons_zero,List.set_cons_succ,i64_w,i32_w]
          rfl
         refine pure_ (i:=2) (N:=some 29) (v:=?_) (a':=?_) #[y',y',y',n',n',n',n',n',n',n',n',n',n',n'] rfl rfl (any_of HT_.out (by kernel_rfl)) (fun _ _ _ h=>h) (Or.inl ⟨by rfl,?_⟩) ?_ ?_
         rotate_left
         ·intro w'
          go_simp
          with_reducible rfl
         rotate_left
         ·simp only [Act.put,List.setIfInBounds_toArray,List.set_cons_zero,List.set_cons_succ,i64_w,i32_w]
          rfl
         refine pure_ (i:=3) (N:=some 30) (v:=?_) (a':=?_) #[y',y',y',y',n',n',n',n',n',n',n',n',n',n'] rfl rfl (any_of HT_.out (by kernel_rfl)) (fun _ _ _ h=>h) (Or.inl ⟨by rfl,?_⟩) ?_ ?_
         rotate_left
         ·intro w'
          go_simp
          with_reducible rfl
         rotate_left
         ·simp only [Act.put,List.setIfInBounds_toArray,List.set_cons_zero,List.set_cons_succ,i64_w,i32_w]
          rfl
         refine pure_ (i:=4) (N:=some 31) (v:=?_) (a':=?_) #[y',y',y',y',y',n',n',n',n',n',n',n',n',n'] rfl rfl (any_of HT_.out (by kernel_rfl)) (fun _ _ _ h=>h) (Or.inl ⟨by rfl,?_⟩) ?_ ?_
         rotate_left
         ·intro w'
          go_simp
          with_reducible rfl
         rotate_left
         ·simp only [Act.put,List.setIfInBounds_toArray,List.set_cons_zero,List.set_cons_succ,i64_w,i32_w]
          rfl
         refine pure_ (i:=6) (N:=some 33) (v:=?_) (a':=?_) #[y',y',y',y',y',n',y',n',n',n',n',n',n',n'] rfl rfl (any_of HT_.out (by kernel_rfl)) (fun _ _ _ h=>h) (Or.inl ⟨by rfl,?_⟩) ?_ ?_
         rotate_left
         ·intro w'
          go_simp
          with_reducible rfl
         rotate_left
         ·simp only [Act.put,List.setIfInBounds_toArray,List.set_cons_zero,List.set_cons_succ,i64_w,i32_w]
          rfl
         refine pure_ (i:=7) (N:=some 34) (v:=?_) (a':=?_) #[y',y',y',y',y',n',y',y',n',n',n',n',n',n'] rfl rfl (any_of HT_.out (by kernel_rfl)) (fun _ _ _ h=>h) (Or.inl ⟨by rfl,?_⟩) ?_ ?_
         rotate_left
         ·intro w'
          go_simp
          with_reducible rfl
         rotate_left
         ·simp only [Act.put,List.setIfInBounds_toArray,List.set_cons_zero,List.set_cons_succ,i64_w,i32_w]
          rfl
         refine pure_ (i:=8) (N:=some 35) (v:=?_) (a':=?_) #[y',y',y',y',y',n',y',y',y',n',n',n',n',n'] rfl rfl (any_of HT_.out (by kernel_rfl)) (fun _ _ _ h=>h) (Or.inl ⟨by rfl,?_⟩) ?_ ?_
         rotate_left
         ·intro w'
          go_simp
          with_reducible rfl
         rotate_left
         ·simp only [Act.put,List.setIfInBounds_toArray,List.set_cons_zero,List.set_cons_succ,i64_w,i32_w]
          rfl
         refine take_ (i:=5) (N:=some 32) (v:=?_) (a':=?_) #[y',y',y',y',y',y',y',y',y',n',n',n',n',n'] rfl rfl (take_ofW HT_.out HW_.out (by kernel_rfl)) (fun _ _ _ h=>h) (Or.inl ⟨by rfl,?_⟩) hHeld ?_ ?_
         rotate_left
         ·rintro w' ⟨s0,s1⟩
          go_simp
          with_reducible rfl
         rotate_left
         ·simp only [Act.put,List.setIfInBounds_toArray,List.set_cons_zero,List.set_cons_succ,i64_w,i32_w]
          rfl
         refine take_ (i:=9) (N:=some 36) (v:=?_) (a':=?_) #[y',y',y',y',y',y',y',y',y',y',n',n',n',n'] rfl rfl (take_ofW HT_.out HW_.out (by kernel_rfl)) (fun _ _ _ h=>h) (Or.inl ⟨by rfl,?_⟩) hHeld ?_ ?_
         rotate_left
         ·rintro w' ⟨s0,s1⟩
          go_simp
          with_reducible rfl
         rotate_left
         ·simp only [Act.put,List.setIfInBounds_toArray,List.set_cons_zero,List.set_cons_succ,i64_w,i32_w]
          rfl
         refine pure_ (i:=10) (N:=some 37) (v:=?_) (a':=?_) #[y',y',y',y',y',y',y',y',y',y',y',n',n',n'] rfl rfl (any_of HT_.out (by kernel_rfl)) (fun _ _ _ h=>h) (Or.inl ⟨by rfl,?_⟩) ?_ ?_
         rotate_left
         ·intro w'
          go_simp
          with_reducible rfl
         rotate_left
         ·simp only [Act.put,List.setIfInBounds_toArray,List.set_cons_zero,List.set_cons_succ,i64_w,i32_w]
          rfl
         refine last_ (i:=11) (N:=some 38) #[y',y',y',y',y',y',y',y',y',y',y',y',n',n'] rfl rfl (one_of HT_.out (by kernel_rfl)) (by decide) (fun K hK=>?_)
         refine value_ (w1:=?_) (v:=?_) (by rfl) rfl ?_ ?_
         rotate_left 2
         ·go_simp
          constructor
          ·rfl
          ·rfl
         refine hK.out _ _ ?_
         clear hK K;refine norm_ (a':=?_) ?_ ?_
         rotate_left
         ·show Act.put _ (some 38) _ = _
          simp only [Act.put,List.setIfInBounds_toArray,List.set_cons_zero,List.set_cons_succ,i64_w,i32_w]
          rfl
         refine last_ (i:=12) (N:=some 39) #[y',y',y',y',y',y',y',y',y',y',y',y',y',n'] rfl rfl (one_of HT_.out (by kernel_rfl)) (by decide) (fun K hK=>?_)
         refine Kd.R_append_step k50 (w0:=w) w.heap.size (by rfl) (.tmp 27) (.tmp 38) 46 50 (.agg #[(.int .i64 0),(.int .i64 0),(.int .i64 0)]) 24 rfl Try.underlying46 info50 rfl (by decide) (by omega) u7 x7_1 (⟨x15_1,rd t308 x15_1,rd t311 x15_1⟩ : S50) [.int .i64 x15_1,.int .i64 (rd t308 x15_1),.int .i64 (rd t311 x15_1)] (fun _=>True) (fun _=>False) rfl rfl ?aP (fun _ hk=>hk.elim) ?aF ?aO ?aB ?aS ?aL ?_
         (case aP=>exact k50_mkM _ _ _ (⟨x15_1,rd t308 x15_1,rd t311 x15_1⟩ : S50))
         (case aB=>exact (by repeat (first|(with_reducible first|exact HB.out|apply zA|apply zB|apply zC|refine zF ?_ GE306.out|refine zF ?_ GE307.out)|exact HB.out)))
         (case aF=>exact (fun _ _=>trivial))
         (case aO=>exact (by (with_reducible repeat (first|apply zP|apply zQ|apply zR));exact HO_7.out))
         (case aS=>exact (zJ (by repeat (first|(with_reducible first|exact HB.out|apply zA|apply zB|apply zC|refine zF ?_ GE306.out|refine zF ?_ GE307.out)|exact HB.out))))
         (case aL=>have:=LMc18.out;omega)
         intro v319 w22 ho hb hg hat
         rw [← Ny318.out] at ho;have n0_:=zm (Kd.R_over' (by (with_reducible repeat (first|apply zP|apply zQ|apply zR));exact HO_5.out) (Kd.R_typed (by (with_reducible repeat (first|apply zP|apply zQ|apply zR));exact HO_7.out)) (by decide) hg)
         have n1_:=zm (Kd.R_over' (by (with_reducible repeat (first|apply zP|apply zQ|apply zR));exact HO_6.out) (Kd.R_typed (by (with_reducible repeat (first|apply zP|apply zQ|apply zR));exact HO_7.out)) (by decide) hg)
         have n2_:=zm (blk_grown (g:=gb306) (o:=.cells #[.slice A0_0 l0_0.length c0_0,.slice A0_1 l0_1.length c0_1,.slice A0_2 l0_2.length c0_2,.slice A0_3 l0_3.length c0_3] 27 (0,0)) (by (with_reducible repeat (first|refine zH ?_ _|refine zI ?_|refine zG ?_ _));exact BK306.out) hg (Kd.R_ne HO_7.out BK306.out (by decide)))
         have n3_:=zm (blk_grown (g:=gb307) (o:=.cells #[.slice A1_0 l1_0.length c1_0,.slice A1_1 l1_1.length c1_1,.slice A1_2 l1_2.length c1_2,.slice A1_3 l1_3.length c1_3] 27 (0,0)) (by (with_reducible repeat (first|refine zH ?_ _|refine zI ?_|refine zG ?_ _));exact BK307.out) hg (Kd.R_ne HO_7.out BK307.out (by decide)))
         have n4_:=zm (hb);have n5_:=zm (ho);clear HO_5;clear HO_6;clear BK306;clear BK307;clear HB;clear HO_7;have HO_5:=n0_;have HO_6:=n1_;have BK306:=n2_;have BK307:=n3_;have HB:=n4_;have HO320:=n5_;clear n0_ n1_ n2_ n3_ n4_ n5_;clear ho hb hg hat;refine hK.out _ _ ?_
         clear hK K;refine norm_ (a':=?_) ?_ ?_
         rotate_left
         ·show Act.put _ (some 39) _ = _
          simp only [Act.put,List.setIfInBounds_toArray,List.set_cons_zero,List.set_cons_succ,i64_w,i32_w]
          rfl
         refine pure_ (i:=13) (N:=some 7) (v:=?_) (a':=?_) #[y',y',y',y',y',y',y',y',y',y',y',y',y',y'] rfl rfl (any_of HT_.out (by kernel_rfl)) (fun _ _ _ h=>h) (Or.inl ⟨by rfl,?_⟩) ?_ ?_
         rotate_left
         ·intro w'
          go_simp
          with_reducible rfl
         rotate_left
         ·simp only [Act.put,List.setIfInBounds_toArray,List.set_cons_zero,List.set_cons_succ,i64_w,i32_w]
          rfl
         refine done_ (done_of HT_.out (by kernel_rfl)) ?_
         try go_wp2
         go_roundg k1
         case measure=>have:=HK1.out;omega
         case rel=>exact ⟨(y318),(wrap64 (x15_1 + 1)),(by first|rfl|(simp;done)|(simp [*];done)),H',⟨by have:=HK1.out;omega⟩,⟨by (with_reducible repeat (first|apply zP|apply zQ|apply zR));exact HO_5.out⟩,⟨by (with_reducible repeat (first|apply zP|apply zQ|apply zR));exact HO_6.out⟩,⟨by (with_reducible repeat (first|apply zP|apply zQ|apply zR));exact HO320.out⟩,⟨by (with_reducible repeat (first|refine zH ?_ _|refine zI ?_|refine zG ?_ _));exact BK306.out⟩,⟨by (with_reducible repeat (first|refine zH ?_ _|refine zI ?_|refine zG ?_ _));exact BK307.out⟩,⟨by repeat (first|(with_reducible first|exact HB.out|apply zA|apply zB|apply zC|refine zF ?_ GE306.out|refine zF ?_ GE307.out)|exact HB.out)⟩⟩
        ·rw [if_neg c18] at H;exact absurd H (by simp)
      ·rw [if_neg c14] at H;exact absurd H (by simp)
     ·rw [if_neg c13] at H;exact absurd H (by simp)
    ·rw [if_neg c12] at H;exact absurd H (by simp)
   ·rw [if_neg c11] at H;have c11b0 : decide (x15_1 < (t308.length : Int)) = false:=decide_eq_false c11;clear c11;obtain rfl:=Option.some.inj H;go_wp2;go_ret
    exact ⟨_,by first|rfl|(simp [errW_none,errW_some] <;> rfl)|(simp [*,errW_none,errW_some] <;> rfl),by (with_reducible repeat (first|apply zP|apply zQ|apply zR));exact HO_7.out,by repeat (first|(with_reducible first|exact HB.out|apply zA|apply zB|apply zC|refine zF ?_ GE306.out|refine zF ?_ GE307.out)|exact HB.out)⟩

end Go.Proofs.Ytpdcghclcgbcfaa.T
