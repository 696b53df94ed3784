-- written by a program of this session (after the kit's print), not trusted: Lean checks it
import Derived.Test.YtpdcghclcgbcfaaQx0
import Derived.Test.YtpdcghclcgbcfaaQx4
import Derived.Test.YtpdcghclcgbcfaaQx12
namespace Go.Proofs.Ytpdcghclcgbcfaa.Q
open Go.RowKit Go.Proofs.YtpdcghclcgbcfaaW.PrintWords Go.Proofs.YtpdcghclcgbcfaaW.PrintLast Go.Proofs.YtpdcghclcgbcfaaW.PrintMore
open Go.Proofs.YtpdcghclcgbcfaaW.PrintWords renaming below_alloc → zA, below_drew1 → zC, below_set → zF, below_size → zJ, below_step → zK, blk_alloc → zG, blk_below → zL, blk_cell → zD, blk_drew → zI, blk_drewN → zH, blk_frozen → zE, box_event → zN, gate_dst → zM, pw_below_drewN → zB
open Go.Proofs.YtpdcghclcgbcfaaW.PrintWords.Kd renaming C_alloc → zT, C_below → zY, C_drew → zV, C_drewN → zU, R_alloc → zP, R_drew → zR, R_drewN → zQ, R_reads' → zW, R_slice → zAb
open Go.Proofs.YtpdcghclcgbcfaaW.PrintWords.Aside0 renaming mk → zm
attribute [local go_sem] max2_int min2_int max_two min_two max_three min_three max_four min_four   -- for this text's walks alone
set_option linter.unusedVariables false
set_option linter.unusedSimpArgs false

/-! ### impl_Chain: function 37 -/
def impl_Chain.l0 : Nat→Int→List Int→List Int→List Int→List Bool→List (List Bool)→Option (List Int)
 | 0,_,_,_,_,_,_=>none
 | k + 1,x1,x5,x264000,x264001,x264002,x264003=>if x1 = (-1) then (some x5) else ((slices_Contains_int_int.f k x5 x1).bind fun t265=>(if t265 = true then (some x5) else (if x5.length < 17592186044416 then (if 0 ≤ x1 then (if x1 < (x264000.length : Int) then (impl_Chain.l0 k (rd x264000 x1) (x5 ++ [x1]) x264000 x264001 x264002 x264003) else (none)) else (none)) else (none))))
def impl_Chain.f (k : Nat) (l0_0 : List Int) (l0_1 : List Int) (l0_2 : List Bool) (l0_3 : List (List Bool)) (a1 : Int) : Option (List Int):=(impl_there.f k l0_0 l0_1 l0_2 l0_3 a1).bind fun t264=>(if t264 = true then (impl_Chain.l0 k a1 ([] : List Int) l0_0 l0_1 l0_2 l0_3) else (some ([] : List Int)))
theorem impl_Chain.mono_l : ∀ k,(∀ y0 y1 y2 y3 y4 y5,LeO (impl_Chain.l0 k y0 y1 y2 y3 y4 y5) (impl_Chain.l0 (k + 1) y0 y1 y2 y3 y4 y5))
 | 0=>fun _ _ _ _ _ _ r h=>by simp [impl_Chain.l0] at h
 | k + 1=>by
  have ih0:=impl_Chain.mono_l k
  ·intro y0 y1 y2 y3 y4 y5
   unfold impl_Chain.l0
   repeat' first
   | (with_reducible exact ih0 _ _ _ _ _ _)
   | (with_reducible exact impl_there.mono _ _ _ _ _ _)
   | (with_reducible exact slices_Contains_int_int.mono _ _ _)
   | (with_reducible exact LeO.refl _)
   | (with_reducible exact LeO.none _)
   | (with_reducible refine LeO.ite ?_ ?_)
   | (with_reducible refine LeO.bind ?_ (fun _=>?_))
   | exact ih0 _ _ _ _ _ _
   | exact impl_there.mono _ _ _ _ _ _
   | exact slices_Contains_int_int.mono _ _ _
   | exact LeO.none _
   | refine LeO.ite ?_ ?_
   | refine LeO.bind ?_ (fun _=>?_)
theorem impl_Chain.mono : ∀ a0 a1 a2 a3 a4 k,LeO (impl_Chain.f k a0 a1 a2 a3 a4) (impl_Chain.f (k + 1) a0 a1 a2 a3 a4):=by
 intro a0 a1 a2 a3 a4 k
 have ih0:=impl_Chain.mono_l k;unfold impl_Chain.f
 repeat' first
   | (with_reducible exact ih0 _ _ _ _ _ _)
   | (with_reducible exact impl_there.mono _ _ _ _ _ _)
   | (with_reducible exact slices_Contains_int_int.mono _ _ _)
   | (with_reducible exact LeO.refl _)
   | (with_reducible exact LeO.none _)
   | (with_reducible refine LeO.ite ?_ ?_)
   | (with_reducible refine LeO.bind ?_ (fun _=>?_))
   | exact ih0 _ _ _ _ _ _
   | exact impl_there.mono _ _ _ _ _ _
   | exact slices_Contains_int_int.mono _ _ _
   | exact LeO.none _
   | refine LeO.ite ?_ ?_
   | refine LeO.bind ?_ (fun _=>?_)
set_option maxHeartbeats 8000000 in
set_option maxRecDepth 100000 in
theorem impl_Chain.calls (k : Nat) (A0_0 : Option Addr) (c0_0 : Nat) (l0_0 : List Int) (A0_1 : Option Addr) (c0_1 : Nat) (l0_1 : List Int) (A0_2 : Option Addr) (c0_2 : Nat) (l0_2 : List Bool) (A0_3 : Option Addr) (c0_3 : Nat) (l0_3 : List (List Bool)) (a1 : Int) (r : List Int) (w : World) (hr0_0 : Kd.C (Kd.int .i64) w A0_0 l0_0.length l0_0) (hc0_0 : l0_0.length ≤ c0_0) (hr0_1 : Kd.C (Kd.int .i64) w A0_1 l0_1.length l0_1) (hc0_1 : l0_1.length ≤ c0_1) (hr0_2 : Kd.C Kd.bool w A0_2 l0_2.length l0_2) (hc0_2 : l0_2.length ≤ c0_2) (hr0_3 : Kd.C (Kd.slice 4 Kd.bool) w A0_3 l0_3.length l0_3) (hc0_3 : l0_3.length ≤ c0_3) (h : impl_Chain.f k l0_0 l0_1 l0_2 l0_3 a1 = some r) :
  Calls Try.prog 37 #[.agg #[.slice A0_0 l0_0.length c0_0,.slice A0_1 l0_1.length c0_1,.slice A0_2 l0_2.length c0_2,.slice A0_3 l0_3.length c0_3],.int .i64 a1] w fun e w'=>∃ v0_ : Value,e = .returned (v0_)∧Kd.R (Kd.int .i64) 3 w' w.heap.size (fun _=>True) v0_ r∧Below w.heap.size w w':=by
 have hu27:=Try.underlying27;have HR0_0:=zm hr0_0;have HC0_0:=zm hc0_0;clear hr0_0 hc0_0;have HR0_1:=zm hr0_1;have HC0_1:=zm hc0_1;clear hr0_1 hc0_1;have HR0_2:=zm hr0_2;have HC0_2:=zm hc0_2;clear hr0_2 hc0_2;have HR0_3:=zm hr0_3;have HC0_3:=zm hc0_3;clear hr0_3 hc0_3;have HB:=zm (Below.refl w.heap.size w);have H : ((impl_there.f k l0_0 l0_1 l0_2 l0_3 a1).bind fun t264=>(if t264 = true then (impl_Chain.l0 k a1 ([] : List Int) l0_0 l0_1 l0_2 l0_3) else (some ([] : List Int)))) = some r:=h
 clear h;replace H:=Option.bind_eq_some_iff.mp H;obtain ⟨t264,A30,H⟩:=H;replace H : (if t264 = true then (impl_Chain.l0 k a1 ([] : List Int) l0_0 l0_1 l0_2 l0_3) else (some ([] : List Int))) = some r:=H;have A3:=zm A30;clear A30;by_cases c4 : t264 = true
 ·subst c4
  have H1 : (impl_Chain.l0 k a1 ([] : List Int) l0_0 l0_1 l0_2 l0_3) = some r:=by rw [if_pos rfl] at H;exact H
  clear H;have H:=H1;clear H1;have H':=zm H;clear H;go_enter Try.func37,Try.ntmps37
  go_wp2_with (first|((with_reducible refine zM (N:=2) rfl ?_);refine zN ?hg (N:=2) ?hd (cs:=#[.slice A0_0 l0_0.length c0_0,.slice A0_1 l0_1.length c0_1,.slice A0_2 l0_2.length c0_2,.slice A0_3 l0_3.length c0_3]) (t:=27) ?hr ?_;(case hd=>rfl);(case hg=>rfl);(case hr=>first|(go_simp;done)|(go_simp;rfl));intro gb263 hg w5 hbox hb;have n0_:=zm (zK (by repeat (first|(with_reducible first|exact HB.out|apply zA|apply zB|apply zC)|exact HB.out)) hb);have n1_:=zm (hbox);have n2_:=zm ((by rw [hg];exact (zJ (by repeat (first|(with_reducible first|exact HB.out|apply zA|apply zB|apply zC)|exact HB.out))) : w.heap.size ≤ gb263));have n3_:=zm ((by rw [hg];exact (zJ (by repeat (first|(with_reducible first|exact HB.out|apply zA|apply zB|apply zC)|exact HB.out))) : w.heap.size ≤ gb263));clear HB;have HB:=n0_;have BK263:=n1_;have GW263:=n2_;have GE263:=n3_;clear n0_ n1_ n2_ n3_;clear hb hbox hg;have hcz6_0 : w5.cell? ⟨gb263,0,none⟩ = some (.slice A0_0 l0_0.length c0_0):=(zD BK263.out 0).trans rfl;have hcz6_1 : w5.cell? ⟨gb263,1,none⟩ = some (.slice A0_1 l0_1.length c0_1):=(zD BK263.out 1).trans rfl;have hcz6_2 : w5.cell? ⟨gb263,2,none⟩ = some (.slice A0_2 l0_2.length c0_2):=(zD BK263.out 2).trans rfl;have hcz6_3 : w5.cell? ⟨gb263,3,none⟩ = some (.slice A0_3 l0_3.length c0_3):=(zD BK263.out 3).trans rfl;have hfz6_0:=zE BK263.out 0;have hfz6_1:=zE BK263.out 1;have hfz6_2:=zE BK263.out 2;have hfz6_3:=zE BK263.out 3)|((with_reducible refine gate_callee (f:=58) rfl ?_);refine goesL_ (some 8) rfl rfl Try.func58 (by kernel_rfl) rfl #[.agg #[.slice A0_0 l0_0.length c0_0,.slice A0_1 l0_1.length c0_1,.slice A0_2 l0_2.length c0_2,.slice A0_3 l0_3.length c0_3],.int .i64 a1] rfl (by (try simp only [List.map_toArray,List.map_cons,List.map_nil]);first|done|rfl|(simp only [List.length_drop,List.length_take];rfl)) ?_;(with_reducible refine (impl_there.calls k _ _ l0_0 _ _ l0_1 _ _ l0_2 _ _ l0_3 a1 true _ ?side1 ?side2 ?side3 ?side4 ?side5 ?side6 ?side7 ?side8 A3.out).mono ?_);(case side1=>repeat (first|exact (zY HR0_0.out HB.out)|(with_reducible refine zT ?_ _)|(with_reducible refine zU ?_ _)|(with_reducible refine zV ?_)));(case side2=>exact HC0_0.out);(case side3=>repeat (first|exact (zY HR0_1.out HB.out)|(with_reducible refine zT ?_ _)|(with_reducible refine zU ?_ _)|(with_reducible refine zV ?_)));(case side4=>exact HC0_1.out);(case side5=>repeat (first|exact (zY HR0_2.out HB.out)|(with_reducible refine zT ?_ _)|(with_reducible refine zU ?_ _)|(with_reducible refine zV ?_)));(case side6=>exact HC0_2.out);(case side7=>repeat (first|exact (zY HR0_3.out HB.out)|(with_reducible refine zT ?_ _)|(with_reducible refine zU ?_ _)|(with_reducible refine zV ?_)));(case side8=>exact HC0_3.out);rintro e w7 ⟨rfl,hb⟩;refine ⟨_,rfl,?_⟩;have n0_:=zm (zL (g:=gb263) (o:=.cells #[.slice A0_0 l0_0.length c0_0,.slice A0_1 l0_1.length c0_1,.slice A0_2 l0_2.length c0_2,.slice A0_3 l0_3.length c0_3] 27 (0,0)) (by (with_reducible repeat (first|refine zH ?_ _|refine zI ?_|refine zG ?_ _));exact BK263.out) hb);have n1_:=zm (zK (by repeat (first|(with_reducible first|exact HB.out|apply zA|apply zB|apply zC|refine zF ?_ GE263.out)|exact HB.out)) hb);clear BK263;clear HB;have BK263:=n0_;have HB:=n1_;clear n0_ n1_;(try clear hb);(try clear hb2);(try clear hk);(try clear hi)))
  go_loopg [1,5] k (fun kq v1 v5 w'=>∃ (x1_1 : Int) (x5_1 : List Int),v1 = .int .i64 x1_1∧Aside0 (impl_Chain.l0 kq x1_1 x5_1 l0_0 l0_1 l0_2 l0_3 = some r)∧Aside0 (kq ≤ k)∧Aside0 (Kd.R (Kd.int .i64) 3 w' w.heap.size (fun _=>True) v5 x5_1)∧Aside0 (w'.heap[gb263]? = some (.cells #[(.slice A0_0 l0_0.length c0_0),(.slice A0_1 l0_1.length c0_1),(.slice A0_2 l0_2.length c0_2),(.slice A0_3 l0_3.length c0_3)] 27 (0,0)))∧Aside0 (Below w.heap.size w w'))
  case atStart=>exact ⟨(a1),(([] : List Int)),(by first|rfl|(simp;done)|(simp [*];done)),H',⟨Nat.le_refl _⟩,⟨by first|exact Kd.R_nil _ _ _ _ _|exact Kd.N_nil _ _ _ _ _|exact Kd.V_nil _ _ _ _ _|exact Kd.Q_nil _ _ _ _ _|exact Kd.S_nil _ _ _ _ _⟩,⟨by (with_reducible repeat (first|refine zH ?_ _|refine zI ?_|refine zG ?_ _));exact BK263.out⟩,⟨by repeat (first|(with_reducible first|exact HB.out|apply zA|apply zB|apply zC|refine zF ?_ GE263.out)|exact HB.out)⟩⟩
  case round =>
   clear H';(try clear p2);(try clear c3);(try clear c4);(try clear c5);(try clear hcz6_0);(try clear hcz6_1);(try clear hcz6_2);(try clear hcz6_3);(try clear hfz6_0);(try clear hfz6_1);(try clear hfz6_2);(try clear hfz6_3);obtain ⟨x1_1,x5_1,rfl,HA,HK1,HO_5,BK263,HB⟩:=hrel;cases gk with
   | zero=>exact absurd HA.out (by simp [impl_Chain.l0])
   | succ k1 =>
    have H:=HA.out;clear HA;simp only [impl_Chain.l0] at H
    by_cases c8 : x1_1 = (-1)
    ·rw [if_pos c8] at H;have c8b0 : (x1_1 == (-1)) = true:=beq_iff_eq.mpr c8;have c8b1 : (x1_1 != (-1)) = false:=bne_eq_false_iff_eq.mpr c8;clear c8;obtain rfl:=Option.some.inj H;go_wp2;go_ret
     exact ⟨_,by first|rfl|(simp [errW_none,errW_some] <;> rfl)|(simp [*,errW_none,errW_some] <;> rfl),by (with_reducible repeat (first|apply zP|apply zQ|apply zR));exact HO_5.out,by repeat (first|(with_reducible first|exact HB.out|apply zA|apply zB|apply zC|refine zF ?_ GE263.out)|exact HB.out)⟩
    ·rw [if_neg c8] at H;have c8b0 : (x1_1 == (-1)) = false:=beq_eq_false_iff_ne.mpr c8;have c8b1 : (x1_1 != (-1)) = true:=bne_iff_ne.mpr c8;replace H:=Option.bind_eq_some_iff.mp H;obtain ⟨t265,A90,H⟩:=H;replace H : (if t265 = true then (some x5_1) else (if x5_1.length < 17592186044416 then (if 0 ≤ x1_1 then (if x1_1 < (l0_0.length : Int) then (impl_Chain.l0 k1 (rd l0_0 x1_1) (x5_1 ++ [x1_1]) l0_0 l0_1 l0_2 l0_3) else (none)) else (none)) else (none))) = some r:=H;have A9:=zm A90;clear A90;by_cases c10 : t265 = true
     ·subst c10
      have H1 : (some x5_1) = some r:=by rw [if_pos rfl] at H;exact H
      clear H;have H:=H1;clear H1;obtain rfl:=Option.some.inj H;obtain ⟨Ao11,co11,eo11⟩:=zAb HO_5.out;subst eo11
      go_wp2_with (first|(go_at_call 64;(with_reducible refine (slices_Contains_int_int.calls k1 _ _ x5_1 x1_1 true _ ?side1 ?side2 A9.out).mono ?_);(case side1=>repeat (first|exact (zW HO_5.out).2.2|(with_reducible refine zT ?_ _)|(with_reducible refine zU ?_ _)|(with_reducible refine zV ?_)));(case side2=>exact (zW HO_5.out).2.1);rintro e w' ⟨rfl,⟨nd,rfl⟩⟩))
      go_ret
      exact ⟨_,by first|rfl|(simp [errW_none,errW_some] <;> rfl)|(simp [*,errW_none,errW_some] <;> rfl),by (with_reducible repeat (first|apply zP|apply zQ|apply zR));exact HO_5.out,by repeat (first|(with_reducible first|exact HB.out|apply zA|apply zB|apply zC|refine zF ?_ GE263.out)|exact HB.out)⟩
     ·replace c10:=Bool.eq_false_iff.mpr c10;subst c10
      have H1 : (if x5_1.length < 17592186044416 then (if 0 ≤ x1_1 then (if x1_1 < (l0_0.length : Int) then (impl_Chain.l0 k1 (rd l0_0 x1_1) (x5_1 ++ [x1_1]) l0_0 l0_1 l0_2 l0_3) else (none)) else (none)) else (none)) = some r:=by rw [if_neg (show ¬ (false = true) by decide)] at H;exact H
      clear H;have H:=H1;clear H1;by_cases c12 : x5_1.length < 17592186044416
      ·rw [if_pos c12] at H;have LMc12:=zm c12;clear c12;obtain ⟨y266,hy266⟩ : ∃ y_ : List Int,y_ = (x5_1 ++ [x1_1]):=⟨_,rfl⟩;replace H : (if 0 ≤ x1_1 then (if x1_1 < (l0_0.length : Int) then (impl_Chain.l0 k1 (rd l0_0 x1_1) y266 l0_0 l0_1 l0_2 l0_3) else (none)) else (none)) = some r:=by first|(rw [hy266];with_reducible exact H)|(have H2_:=(Option.bind_some _ _).symm.trans H;rw [hy266];with_reducible exact H2_)|(have H2_:=(Option.bind_some _ _).symm.trans H;with_reducible exact H2_)|with_reducible exact H|(rw [hy266];exact H)|exact H
       have Ny266:=zm hy266;clear hy266;by_cases c13 : 0 ≤ x1_1
       ·rw [if_pos c13] at H;have c13b0 : decide (0 ≤ x1_1) = true:=decide_eq_true c13;clear c13;by_cases c14 : x1_1 < (l0_0.length : Int)
        ·rw [if_pos c14] at H;have c14b0 : decide (x1_1 < (l0_0.length : Int)) = true:=decide_eq_true c14;clear c14;have H':=zm H;clear H;obtain ⟨Ao15,co15,eo15⟩:=zAb HO_5.out;subst eo15
         go_wp2_with (first|(go_at_call 64;(with_reducible refine (slices_Contains_int_int.calls k1 _ _ x5_1 x1_1 false _ ?side1 ?side2 A9.out).mono ?_);(case side1=>repeat (first|exact (zW HO_5.out).2.2|(with_reducible refine zT ?_ _)|(with_reducible refine zU ?_ _)|(with_reducible refine zV ?_)));(case side2=>exact (zW HO_5.out).2.1);rintro e w' ⟨rfl,⟨nd,rfl⟩⟩)|((with_reducible refine gate_builtin (b:=.append) (xs:=#[.tmp 18,.tmp 20]) rfl ?_);at_builtin;refine Kd.R_append (Kd.int .i64) (w0:=w) w.heap.size rfl (.tmp 18) (.tmp 20) 23 3 (.int .i64 0) 8 rfl Try.underlying23 info3 rfl (by decide) (by omega) (.slice Ao15 x5_1.length co15) x5_1 x1_1 [.int .i64 x1_1] (fun _=>True) (fun _=>False) rfl rfl ?aP (fun _ hk=>hk.elim) ?aF ?aO ?aB ?aS ?aL ?_;(case aP=>exact rfl);(case aB=>exact (by repeat (first|(with_reducible first|exact HB.out|apply zA|apply zB|apply zC|refine zF ?_ GE263.out)|exact HB.out)));(case aF=>exact (fun _ _=>trivial));(case aO=>exact (by (with_reducible repeat (first|apply zP|apply zQ|apply zR));exact HO_5.out));(case aS=>exact (zJ (by repeat (first|(with_reducible first|exact HB.out|apply zA|apply zB|apply zC|refine zF ?_ GE263.out)|exact HB.out))));(case aL=>have:=LMc12.out;omega);intro v267 w16 ho hb hg hat;rw [← Ny266.out] at ho;have n0_:=zm (blk_grown (g:=gb263) (o:=.cells #[.slice A0_0 l0_0.length c0_0,.slice A0_1 l0_1.length c0_1,.slice A0_2 l0_2.length c0_2,.slice A0_3 l0_3.length c0_3] 27 (0,0)) (by (with_reducible repeat (first|refine zH ?_ _|refine zI ?_|refine zG ?_ _));exact BK263.out) hg (Kd.R_ne HO_5.out BK263.out (by decide)));have n1_:=zm (hb);have n2_:=zm (ho);clear BK263;clear HB;clear HO_5;have BK263:=n0_;have HB:=n1_;have HO268:=n2_;clear n0_ n1_ n2_;clear ho hb hg hat;have hcz17_0 : w16.cell? ⟨gb263,0,none⟩ = some (.slice A0_0 l0_0.length c0_0):=(zD BK263.out 0).trans rfl;have hcz17_1 : w16.cell? ⟨gb263,1,none⟩ = some (.slice A0_1 l0_1.length c0_1):=(zD BK263.out 1).trans rfl;have hcz17_2 : w16.cell? ⟨gb263,2,none⟩ = some (.slice A0_2 l0_2.length c0_2):=(zD BK263.out 2).trans rfl;have hcz17_3 : w16.cell? ⟨gb263,3,none⟩ = some (.slice A0_3 l0_3.length c0_3):=(zD BK263.out 3).trans rfl;have hfz17_0:=zE BK263.out 0;have hfz17_1:=zE BK263.out 1;have hfz17_2:=zE BK263.out 2;have hfz17_3:=zE BK263.out 3;have p269 : 0 ≤ (x1_1 : Int):=of_decide_eq_true (by first|(with_reducible assumption)|assumption);have q269 : x1_1 < (l0_0.length : Int):=of_decide_eq_true (by first|(with_reducible assumption)|assumption);obtain ⟨ad269,e269,hx269_0⟩:=Kd.at_int HR0_0.out x1_1 p269 q269;cases e269;replace hx269_0:=(HB.out.cell (World.block_lt_of_cell? w _ hx269_0)).trans hx269_0;replace p269:=eq_true p269;replace q269:=eq_true q269))
         go_roundg k1
         case measure=>have:=HK1.out;omega
         case rel=>exact ⟨(rd l0_0 x1_1),(y266),(by first|rfl|(simp;done)|(simp [*];done)),H',⟨by have:=HK1.out;omega⟩,⟨by (with_reducible repeat (first|apply zP|apply zQ|apply zR));exact HO268.out⟩,⟨by (with_reducible repeat (first|refine zH ?_ _|refine zI ?_|refine zG ?_ _));exact BK263.out⟩,⟨by repeat (first|(with_reducible first|exact HB.out|apply zA|apply zB|apply zC|refine zF ?_ GE263.out)|exact HB.out)⟩⟩
        ·rw [if_neg c14] at H;exact absurd H (by simp)
       ·rw [if_neg c13] at H;exact absurd H (by simp)
      ·rw [if_neg c12] at H;exact absurd H (by simp)
 ·replace c4:=Bool.eq_false_iff.mpr c4;subst c4
  have H1 : (some ([] : List Int)) = some r:=by rw [if_neg (show ¬ (false = true) by decide)] at H;exact H
  clear H;have H:=H1;clear H1;obtain rfl:=Option.some.inj H;go_enter Try.func37,Try.ntmps37
  go_wp2_with (first|((with_reducible refine zM (N:=2) rfl ?_);refine zN ?hg (N:=2) ?hd (cs:=#[.slice A0_0 l0_0.length c0_0,.slice A0_1 l0_1.length c0_1,.slice A0_2 l0_2.length c0_2,.slice A0_3 l0_3.length c0_3]) (t:=27) ?hr ?_;(case hd=>rfl);(case hg=>rfl);(case hr=>first|(go_simp;done)|(go_simp;rfl));intro gb263 hg w18 hbox hb;have n0_:=zm (zK (by repeat (first|(with_reducible first|exact HB.out|apply zA|apply zB|apply zC)|exact HB.out)) hb);have n1_:=zm (hbox);have n2_:=zm ((by rw [hg];exact (zJ (by repeat (first|(with_reducible first|exact HB.out|apply zA|apply zB|apply zC)|exact HB.out))) : w.heap.size ≤ gb263));have n3_:=zm ((by rw [hg];exact (zJ (by repeat (first|(with_reducible first|exact HB.out|apply zA|apply zB|apply zC)|exact HB.out))) : w.heap.size ≤ gb263));clear HB;have HB:=n0_;have BK263:=n1_;have GW263:=n2_;have GE263:=n3_;clear n0_ n1_ n2_ n3_;clear hb hbox hg;have hcz19_0 : w18.cell? ⟨gb263,0,none⟩ = some (.slice A0_0 l0_0.length c0_0):=(zD BK263.out 0).trans rfl;have hcz19_1 : w18.cell? ⟨gb263,1,none⟩ = some (.slice A0_1 l0_1.length c0_1):=(zD BK263.out 1).trans rfl;have hcz19_2 : w18.cell? ⟨gb263,2,none⟩ = some (.slice A0_2 l0_2.length c0_2):=(zD BK263.out 2).trans rfl;have hcz19_3 : w18.cell? ⟨gb263,3,none⟩ = some (.slice A0_3 l0_3.length c0_3):=(zD BK263.out 3).trans rfl;have hfz19_0:=zE BK263.out 0;have hfz19_1:=zE BK263.out 1;have hfz19_2:=zE BK263.out 2;have hfz19_3:=zE BK263.out 3)|((with_reducible refine gate_callee (f:=58) rfl ?_);refine goesL_ (some 8) rfl rfl Try.func58 (by kernel_rfl) rfl #[.agg #[.slice A0_0 l0_0.length c0_0,.slice A0_1 l0_1.length c0_1,.slice A0_2 l0_2.length c0_2,.slice A0_3 l0_3.length c0_3],.int .i64 a1] rfl (by (try simp only [List.map_toArray,List.map_cons,List.map_nil]);first|done|rfl|(simp only [List.length_drop,List.length_take];rfl)) ?_;(with_reducible refine (impl_there.calls k _ _ l0_0 _ _ l0_1 _ _ l0_2 _ _ l0_3 a1 false _ ?side1 ?side2 ?side3 ?side4 ?side5 ?side6 ?side7 ?side8 A3.out).mono ?_);(case side1=>repeat (first|exact (zY HR0_0.out HB.out)|(with_reducible refine zT ?_ _)|(with_reducible refine zU ?_ _)|(with_reducible refine zV ?_)));(case side2=>exact HC0_0.out);(case side3=>repeat (first|exact (zY HR0_1.out HB.out)|(with_reducible refine zT ?_ _)|(with_reducible refine zU ?_ _)|(with_reducible refine zV ?_)));(case side4=>exact HC0_1.out);(case side5=>repeat (first|exact (zY HR0_2.out HB.out)|(with_reducible refine zT ?_ _)|(with_reducible refine zU ?_ _)|(with_reducible refine zV ?_)));(case side6=>exact HC0_2.out);(case side7=>repeat (first|exact (zY HR0_3.out HB.out)|(with_reducible refine zT ?_ _)|(with_reducible refine zU ?_ _)|(with_reducible refine zV ?_)));(case side8=>exact HC0_3.out);rintro e w20 ⟨rfl,hb⟩;refine ⟨_,rfl,?_⟩;have n0_:=zm (zL (g:=gb263) (o:=.cells #[.slice A0_0 l0_0.length c0_0,.slice A0_1 l0_1.length c0_1,.slice A0_2 l0_2.length c0_2,.slice A0_3 l0_3.length c0_3] 27 (0,0)) (by (with_reducible repeat (first|refine zH ?_ _|refine zI ?_|refine zG ?_ _));exact BK263.out) hb);have n1_:=zm (zK (by repeat (first|(with_reducible first|exact HB.out|apply zA|apply zB|apply zC|refine zF ?_ GE263.out)|exact HB.out)) hb);clear BK263;clear HB;have BK263:=n0_;have HB:=n1_;clear n0_ n1_;(try clear hb);(try clear hb2);(try clear hk);(try clear hi)))
  go_ret
  exact ⟨_,by first|rfl|(simp [errW_none,errW_some] <;> rfl)|(simp [*,errW_none,errW_some] <;> rfl),by first|exact Kd.R_nil _ _ _ _ _|exact Kd.N_nil _ _ _ _ _|exact Kd.V_nil _ _ _ _ _|exact Kd.Q_nil _ _ _ _ _|exact Kd.S_nil _ _ _ _ _,by repeat (first|(with_reducible first|exact HB.out|apply zA|apply zB|apply zC|refine zF ?_ GE263.out)|exact HB.out)⟩

end Go.Proofs.Ytpdcghclcgbcfaa.Q
