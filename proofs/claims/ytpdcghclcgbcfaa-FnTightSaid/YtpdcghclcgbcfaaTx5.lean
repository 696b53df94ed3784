-- written by a program of this session (after the kit's print), not trusted: Lean checks it
import Derived.Test.YtpdcghclcgbcfaaTx0
namespace Go.Proofs.Ytpdcghclcgbcfaa.T
open Go.RowKit Go.Proofs.YtpdcghclcgbcfaaW.PrintWords Go.Proofs.YtpdcghclcgbcfaaW.PrintLast Go.Proofs.YtpdcghclcgbcfaaW.PrintMore
open Go.Proofs.YtpdcghclcgbcfaaW.PrintWords renaming below_alloc → zA, below_drew1 → zC, below_set → zF, below_size → zJ, below_step → zK, blk_alloc → zG, blk_below → zL, blk_cell → zD, blk_drew → zI, blk_drewN → zH, blk_frozen → zE, box_event → zN, gate_dst → zM, pw_below_drewN → zB
open Go.Proofs.YtpdcghclcgbcfaaW.PrintWords.Kd renaming C_alloc → zT, C_below → zY, C_drew → zV, C_drewN → zU
open Go.Proofs.YtpdcghclcgbcfaaW.PrintWords.Aside0 renaming mk → zm
attribute [local go_sem] max2_int min2_int max_two min_two max_three min_three max_four min_four   -- for this text's walks alone
set_option linter.unusedVariables false
set_option linter.unusedSimpArgs false

/-! ### impl_RowOk: function 25 -/
mutual
def impl_RowOk.j0 : Nat→Int→Bool→List Int→List Int→List Bool→List (List Bool)→Option (Int)
 | 0,_,_,_,_,_,_=>none
 | k + 1,x3,x31,x185000,x185001,x185002,x185003=>if x31 = true then (some 1) else (impl_RowOk.l0 k x3 x3 0 x185000 x185001 x185002 x185003)
def impl_RowOk.l0 : Nat→Int→Int→Int→List Int→List Int→List Bool→List (List Bool)→Option (Int)
 | 0,_,_,_,_,_,_,_=>none
 | k + 1,x3,x32,x33,x185000,x185001,x185002,x185003=>if x33 < x32 then (if 0 ≤ x33 then (if x33 < (x185000.length : Int) then (if (rd x185000 x33) < (-1) then (some 2) else (if (rd x185000 x33) ≥ x3 then (some 2) else (if x33 < (x185001.length : Int) then (if (rd x185001 x33) < 0 then (some 2) else (if (rd x185001 x33) > 1000000 then (some 2) else (impl_RowOk.l0 k x3 x32 (wrap64 (x33 + 1)) x185000 x185001 x185002 x185003))) else (none)))) else (none)) else (none)) else (impl_RowOk.l1 k x3 0 x185000 x185001 x185002 x185003)
def impl_RowOk.l1 : Nat→Int→Int→List Int→List Int→List Bool→List (List Bool)→Option (Int)
 | 0,_,_,_,_,_,_=>none
 | k + 1,x68,x69,x185000,x185001,x185002,x185003=>if x69 < x68 then (if 0 ≤ x69 then (if x69 < (x185003.length : Int) then (if ((rd_L3 x185003 x69).length : Int) = 4 then (impl_RowOk.l1 k x68 (wrap64 (x69 + 1)) x185000 x185001 x185002 x185003) else (some 3)) else (none)) else (none)) else (some 0)
end
def impl_RowOk.f (k : Nat) (l0_0 : List Int) (l0_1 : List Int) (l0_2 : List Bool) (l0_3 : List (List Bool)) : Option (Int):=if (l0_0.length : Int) > 60 then (impl_RowOk.j0 k (l0_0.length : Int) true l0_0 l0_1 l0_2 l0_3) else (if (l0_1.length : Int) = (l0_0.length : Int) then (if (l0_2.length : Int) = (l0_0.length : Int) then (impl_RowOk.j0 k (l0_0.length : Int) ((l0_3.length : Int) != (l0_0.length : Int)) l0_0 l0_1 l0_2 l0_3) else (impl_RowOk.j0 k (l0_0.length : Int) true l0_0 l0_1 l0_2 l0_3)) else (impl_RowOk.j0 k (l0_0.length : Int) true l0_0 l0_1 l0_2 l0_3))
theorem impl_RowOk.mono_l : ∀ k,(∀ y0 y1 y2 y3 y4 y5,LeO (impl_RowOk.j0 k y0 y1 y2 y3 y4 y5) (impl_RowOk.j0 (k + 1) y0 y1 y2 y3 y4 y5))∧(∀ y0 y1 y2 y3 y4 y5 y6,LeO (impl_RowOk.l0 k y0 y1 y2 y3 y4 y5 y6) (impl_RowOk.l0 (k + 1) y0 y1 y2 y3 y4 y5 y6))∧(∀ y0 y1 y2 y3 y4 y5,LeO (impl_RowOk.l1 k y0 y1 y2 y3 y4 y5) (impl_RowOk.l1 (k + 1) y0 y1 y2 y3 y4 y5))
 | 0=>⟨fun _ _ _ _ _ _ r h=>by simp [impl_RowOk.j0] at h,fun _ _ _ _ _ _ _ r h=>by simp [impl_RowOk.l0] at h,fun _ _ _ _ _ _ r h=>by simp [impl_RowOk.l1] at h⟩
 | k + 1=>by
  obtain ⟨ih0,ih1,ih2⟩:=impl_RowOk.mono_l k;refine ⟨?_,?_,?_⟩
  ·intro y0 y1 y2 y3 y4 y5
   unfold impl_RowOk.j0
   repeat' first
   | (with_reducible exact ih0 _ _ _ _ _ _)
   | (with_reducible exact ih1 _ _ _ _ _ _ _)
   | (with_reducible exact ih2 _ _ _ _ _ _)
   | (with_reducible exact LeO.refl _)
   | (with_reducible exact LeO.none _)
   | (with_reducible refine LeO.ite ?_ ?_)
   | (with_reducible refine LeO.bind ?_ (fun _=>?_))
   | exact ih0 _ _ _ _ _ _
   | exact ih1 _ _ _ _ _ _ _
   | exact ih2 _ _ _ _ _ _
   | exact LeO.none _
   | refine LeO.ite ?_ ?_
   | refine LeO.bind ?_ (fun _=>?_)
  ·intro y0 y1 y2 y3 y4 y5 y6
   unfold impl_RowOk.l0
   repeat' first
   | (with_reducible exact ih0 _ _ _ _ _ _)
   | (with_reducible exact ih1 _ _ _ _ _ _ _)
   | (with_reducible exact ih2 _ _ _ _ _ _)
   | (with_reducible exact LeO.refl _)
   | (with_reducible exact LeO.none _)
   | (with_reducible refine LeO.ite ?_ ?_)
   | (with_reducible refine LeO.bind ?_ (fun _=>?_))
   | exact ih0 _ _ _ _ _ _
   | exact ih1 _ _ _ _ _ _ _
   | exact ih2 _ _ _ _ _ _
   | exact LeO.none _
   | refine LeO.ite ?_ ?_
   | refine LeO.bind ?_ (fun _=>?_)
  ·intro y0 y1 y2 y3 y4 y5
   unfold impl_RowOk.l1
   repeat' first
   | (with_reducible exact ih0 _ _ _ _ _ _)
   | (with_reducible exact ih1 _ _ _ _ _ _ _)
   | (with_reducible exact ih2 _ _ _ _ _ _)
   | (with_reducible exact LeO.refl _)
   | (with_reducible exact LeO.none _)
   | (with_reducible refine LeO.ite ?_ ?_)
   | (with_reducible refine LeO.bind ?_ (fun _=>?_))
   | exact ih0 _ _ _ _ _ _
   | exact ih1 _ _ _ _ _ _ _
   | exact ih2 _ _ _ _ _ _
   | exact LeO.none _
   | refine LeO.ite ?_ ?_
   | refine LeO.bind ?_ (fun _=>?_)
theorem impl_RowOk.mono : ∀ a0 a1 a2 a3 k,LeO (impl_RowOk.f k a0 a1 a2 a3) (impl_RowOk.f (k + 1) a0 a1 a2 a3):=by
 intro a0 a1 a2 a3 k
 obtain ⟨ih0,ih1,ih2⟩:=impl_RowOk.mono_l k;unfold impl_RowOk.f
 repeat' first
   | (with_reducible exact ih0 _ _ _ _ _ _)
   | (with_reducible exact ih1 _ _ _ _ _ _ _)
   | (with_reducible exact ih2 _ _ _ _ _ _)
   | (with_reducible exact LeO.refl _)
   | (with_reducible exact LeO.none _)
   | (with_reducible refine LeO.ite ?_ ?_)
   | (with_reducible refine LeO.bind ?_ (fun _=>?_))
   | exact ih0 _ _ _ _ _ _
   | exact ih1 _ _ _ _ _ _ _
   | exact ih2 _ _ _ _ _ _
   | exact LeO.none _
   | refine LeO.ite ?_ ?_
   | refine LeO.bind ?_ (fun _=>?_)
set_option maxHeartbeats 8000000 in
set_option maxRecDepth 100000 in
theorem impl_RowOk.calls (k : Nat) (A0_0 : Option Addr) (c0_0 : Nat) (l0_0 : List Int) (A0_1 : Option Addr) (c0_1 : Nat) (l0_1 : List Int) (A0_2 : Option Addr) (c0_2 : Nat) (l0_2 : List Bool) (A0_3 : Option Addr) (c0_3 : Nat) (l0_3 : List (List Bool)) (r : Int) (w : World) (hr0_0 : Kd.C (Kd.int .i64) w A0_0 l0_0.length l0_0) (hc0_0 : l0_0.length ≤ c0_0) (hr0_1 : Kd.C (Kd.int .i64) w A0_1 l0_1.length l0_1) (hc0_1 : l0_1.length ≤ c0_1) (hr0_2 : Kd.C Kd.bool w A0_2 l0_2.length l0_2) (hc0_2 : l0_2.length ≤ c0_2) (hr0_3 : Kd.C (Kd.slice 4 Kd.bool) w A0_3 l0_3.length l0_3) (hc0_3 : l0_3.length ≤ c0_3) (h : impl_RowOk.f k l0_0 l0_1 l0_2 l0_3 = some r) :
  Calls Try.prog 25 #[.agg #[.slice A0_0 l0_0.length c0_0,.slice A0_1 l0_1.length c0_1,.slice A0_2 l0_2.length c0_2,.slice A0_3 l0_3.length c0_3]] w fun e w'=>e = .returned (.int .i64 r)∧Below w.heap.size w w':=by
 have hu27:=Try.underlying27;have HR0_0:=zm hr0_0;have HC0_0:=zm hc0_0;clear hr0_0 hc0_0;have HR0_1:=zm hr0_1;have HC0_1:=zm hc0_1;clear hr0_1 hc0_1;have HR0_2:=zm hr0_2;have HC0_2:=zm hc0_2;clear hr0_2 hc0_2;have HR0_3:=zm hr0_3;have HC0_3:=zm hc0_3;clear hr0_3 hc0_3;have HB:=zm (Below.refl w.heap.size w);have H : (if (l0_0.length : Int) > 60 then (impl_RowOk.j0 k (l0_0.length : Int) true l0_0 l0_1 l0_2 l0_3) else (if (l0_1.length : Int) = (l0_0.length : Int) then (if (l0_2.length : Int) = (l0_0.length : Int) then (impl_RowOk.j0 k (l0_0.length : Int) ((l0_3.length : Int) != (l0_0.length : Int)) l0_0 l0_1 l0_2 l0_3) else (impl_RowOk.j0 k (l0_0.length : Int) true l0_0 l0_1 l0_2 l0_3)) else (impl_RowOk.j0 k (l0_0.length : Int) true l0_0 l0_1 l0_2 l0_3))) = some r:=h;clear h;have HC2:=zm H;clear H;go_enter Try.func25,Try.ntmps25
 go_upto_region 2 with (first|((with_reducible refine zM (N:=1) rfl ?_);(try (refine gate_guard (by rfl) ?_;dsimp only));refine zN ?hg (N:=1) ?hd (cs:=#[.slice A0_0 l0_0.length c0_0,.slice A0_1 l0_1.length c0_1,.slice A0_2 l0_2.length c0_2,.slice A0_3 l0_3.length c0_3]) (t:=27) ?hr ?_;(case hd=>rfl);(case hg=>rfl);(case hr=>first|(go_simp;done)|(go_simp;rfl));intro gb184 hg w3 hbox hb;have n0_:=zm (zK (by repeat (first|(with_reducible first|exact HB.out|apply zA|apply zB|apply zC)|exact HB.out)) hb);have n1_:=zm (hbox);have n2_:=zm ((by rw [hg];exact (zJ (by repeat (first|(with_reducible first|exact HB.out|apply zA|apply zB|apply zC)|exact HB.out))) : w.heap.size ≤ gb184));have n3_:=zm ((by rw [hg];exact (zJ (by repeat (first|(with_reducible first|exact HB.out|apply zA|apply zB|apply zC)|exact HB.out))) : w.heap.size ≤ gb184));clear HB;have HB:=n0_;have BK184:=n1_;have GW184:=n2_;have GE184:=n3_;clear n0_ n1_ n2_ n3_;clear hb hbox hg;have hcz4_0 : w3.cell? ⟨gb184,0,none⟩ = some (.slice A0_0 l0_0.length c0_0):=(zD BK184.out 0).trans rfl;have hcz4_1 : w3.cell? ⟨gb184,1,none⟩ = some (.slice A0_1 l0_1.length c0_1):=(zD BK184.out 1).trans rfl;have hcz4_2 : w3.cell? ⟨gb184,2,none⟩ = some (.slice A0_2 l0_2.length c0_2):=(zD BK184.out 2).trans rfl;have hcz4_3 : w3.cell? ⟨gb184,3,none⟩ = some (.slice A0_3 l0_3.length c0_3):=(zD BK184.out 3).trans rfl;have hfz4_0:=zE BK184.out 0;have hfz4_1:=zE BK184.out 1;have hfz4_2:=zE BK184.out 2;have hfz4_3:=zE BK184.out 3))
 (try simp only [Act.put,List.setIfInBounds_toArray,List.set_cons_zero,List.set_cons_succ]);go_cut [31] (fun v31 wc=>∃ (kq : Nat) (x31_1 : Bool),v31 = .bool x31_1∧Aside0 (impl_RowOk.j0 kq (l0_0.length : Int) x31_1 l0_0 l0_1 l0_2 l0_3 = some r)∧Aside0 (kq ≤ k)∧Aside0 (wc.heap[gb184]? = some (.cells #[(.slice A0_0 l0_0.length c0_0),(.slice A0_1 l0_1.length c0_1),(.slice A0_2 l0_2.length c0_2),(.slice A0_3 l0_3.length c0_3)] 27 (0,0)))∧Aside0 (Below w.heap.size w wc))
 case first =>
  have H:=HC2.out;clear HC2;by_cases c5 : (l0_0.length : Int) > 60
  ·rw [if_pos c5] at H;have c5b0 : decide (60 < (l0_0.length : Int)) = true:=decide_eq_true c5;have c5b1 : decide (60 < l0_0.length) = true:=decide_eq_true (by omega)
   clear c5;(first|rw [c5b0]|(simp only [i64_w,i32_w];rw [c5b0])|skip)
   have H':=zm H;clear H;go_wp2;go_meet
   case rel=>exact ⟨_,(true),(by first|rfl|(simp;done)|(simp [*];done)),H',⟨by first|omega|exact Nat.le_refl _⟩,⟨by (with_reducible repeat (first|refine zH ?_ _|refine zI ?_|refine zG ?_ _));exact BK184.out⟩,⟨by repeat (first|(with_reducible first|exact HB.out|apply zA|apply zB|apply zC|refine zF ?_ GE184.out)|exact HB.out)⟩⟩
  ·rw [if_neg c5] at H;have c5b0 : decide (60 < (l0_0.length : Int)) = false:=decide_eq_false c5;have c5b1 : decide (60 < l0_0.length) = false:=decide_eq_false (by omega)
   clear c5;(first|rw [c5b0]|(simp only [i64_w,i32_w];rw [c5b0])|skip)
   by_cases c6 : (l0_1.length : Int) = (l0_0.length : Int)
   ·rw [if_pos c6] at H;have c6b0 : ((l0_1.length : Int) == (l0_0.length : Int)) = true:=beq_iff_eq.mpr c6;have c6b1 : ((l0_1.length : Int) != (l0_0.length : Int)) = false:=bne_eq_false_iff_eq.mpr c6;have c6b2 : (l0_1.length == l0_0.length) = true:=by first|simpa using c6|(simp at c6 ⊢;omega)
    clear c6;by_cases c7 : (l0_2.length : Int) = (l0_0.length : Int)
    ·rw [if_pos c7] at H;have c7b0 : ((l0_2.length : Int) == (l0_0.length : Int)) = true:=beq_iff_eq.mpr c7;have c7b1 : ((l0_2.length : Int) != (l0_0.length : Int)) = false:=bne_eq_false_iff_eq.mpr c7;have c7b2 : (l0_2.length == l0_0.length) = true:=by first|simpa using c7|(simp at c7 ⊢;omega)
     clear c7;have H':=zm H;clear H;have hcz8_0 : w3.cell? ⟨gb184,0,none⟩ = some (.slice A0_0 l0_0.length c0_0):=(zD BK184.out 0).trans rfl;have hcz8_1 : w3.cell? ⟨gb184,1,none⟩ = some (.slice A0_1 l0_1.length c0_1):=(zD BK184.out 1).trans rfl;have hcz8_2 : w3.cell? ⟨gb184,2,none⟩ = some (.slice A0_2 l0_2.length c0_2):=(zD BK184.out 2).trans rfl;have hcz8_3 : w3.cell? ⟨gb184,3,none⟩ = some (.slice A0_3 l0_3.length c0_3):=(zD BK184.out 3).trans rfl;have hfz8_0:=zE BK184.out 0;have hfz8_1:=zE BK184.out 1;have hfz8_2:=zE BK184.out 2;have hfz8_3:=zE BK184.out 3;go_wp2;go_meet
     case rel=>exact ⟨_,(((l0_3.length : Int) != (l0_0.length : Int))),(by first|rfl|(simp;done)|(simp [*];done)),H',⟨by first|omega|exact Nat.le_refl _⟩,⟨by (with_reducible repeat (first|refine zH ?_ _|refine zI ?_|refine zG ?_ _));exact BK184.out⟩,⟨by repeat (first|(with_reducible first|exact HB.out|apply zA|apply zB|apply zC|refine zF ?_ GE184.out)|exact HB.out)⟩⟩
    ·rw [if_neg c7] at H;have c7b0 : ((l0_2.length : Int) == (l0_0.length : Int)) = false:=beq_eq_false_iff_ne.mpr c7;have c7b1 : ((l0_2.length : Int) != (l0_0.length : Int)) = true:=bne_iff_ne.mpr c7;have c7b2 : (l0_2.length == l0_0.length) = false:=by first|simpa using c7|(simp at c7 ⊢;omega)
     have H':=zm H;clear H;have hcz9_0 : w3.cell? ⟨gb184,0,none⟩ = some (.slice A0_0 l0_0.length c0_0):=(zD BK184.out 0).trans rfl;have hcz9_1 : w3.cell? ⟨gb184,1,none⟩ = some (.slice A0_1 l0_1.length c0_1):=(zD BK184.out 1).trans rfl;have hcz9_2 : w3.cell? ⟨gb184,2,none⟩ = some (.slice A0_2 l0_2.length c0_2):=(zD BK184.out 2).trans rfl;have hcz9_3 : w3.cell? ⟨gb184,3,none⟩ = some (.slice A0_3 l0_3.length c0_3):=(zD BK184.out 3).trans rfl;have hfz9_0:=zE BK184.out 0;have hfz9_1:=zE BK184.out 1;have hfz9_2:=zE BK184.out 2;have hfz9_3:=zE BK184.out 3;go_wp2;go_meet
     case rel=>exact ⟨_,(true),(by first|rfl|(simp;done)|(simp [*];done)),H',⟨by first|omega|exact Nat.le_refl _⟩,⟨by (with_reducible repeat (first|refine zH ?_ _|refine zI ?_|refine zG ?_ _));exact BK184.out⟩,⟨by repeat (first|(with_reducible first|exact HB.out|apply zA|apply zB|apply zC|refine zF ?_ GE184.out)|exact HB.out)⟩⟩
   ·rw [if_neg c6] at H;have c6b0 : ((l0_1.length : Int) == (l0_0.length : Int)) = false:=beq_eq_false_iff_ne.mpr c6;have c6b1 : ((l0_1.length : Int) != (l0_0.length : Int)) = true:=bne_iff_ne.mpr c6;have c6b2 : (l0_1.length == l0_0.length) = false:=by first|simpa using c6|(simp at c6 ⊢;omega)
    have H':=zm H;clear H;have hcz10_0 : w3.cell? ⟨gb184,0,none⟩ = some (.slice A0_0 l0_0.length c0_0):=(zD BK184.out 0).trans rfl;have hcz10_1 : w3.cell? ⟨gb184,1,none⟩ = some (.slice A0_1 l0_1.length c0_1):=(zD BK184.out 1).trans rfl;have hcz10_2 : w3.cell? ⟨gb184,2,none⟩ = some (.slice A0_2 l0_2.length c0_2):=(zD BK184.out 2).trans rfl;have hcz10_3 : w3.cell? ⟨gb184,3,none⟩ = some (.slice A0_3 l0_3.length c0_3):=(zD BK184.out 3).trans rfl;have hfz10_0:=zE BK184.out 0;have hfz10_1:=zE BK184.out 1;have hfz10_2:=zE BK184.out 2;have hfz10_3:=zE BK184.out 3;go_wp2;go_meet
    case rel=>exact ⟨_,(true),(by first|rfl|(simp;done)|(simp [*];done)),H',⟨by first|omega|exact Nat.le_refl _⟩,⟨by (with_reducible repeat (first|refine zH ?_ _|refine zI ?_|refine zG ?_ _));exact BK184.out⟩,⟨by repeat (first|(with_reducible first|exact HB.out|apply zA|apply zB|apply zC|refine zF ?_ GE184.out)|exact HB.out)⟩⟩
 case rest =>
  clear HC2;(try clear c2);(try clear p2);(try clear c5);(try clear c5b0);(try clear c5b1);(try clear c6);(try clear c6b0);(try clear c6b1);(try clear c6b2);(try clear c7);(try clear c7b0);(try clear c7b1);(try clear c7b2);(try clear hcz10_0);(try clear hcz10_1);(try clear hcz10_2);(try clear hcz10_3);(try clear hcz4_0);(try clear hcz4_1);(try clear hcz4_2);(try clear hcz4_3);(try clear hcz8_0);(try clear hcz8_1);(try clear hcz8_2);(try clear hcz8_3);(try clear hcz9_0);(try clear hcz9_1);(try clear hcz9_2);(try clear hcz9_3);(try clear hfz10_0);(try clear hfz10_1);(try clear hfz10_2);(try clear hfz10_3);(try clear hfz4_0);(try clear hfz4_1);(try clear hfz4_2);(try clear hfz4_3);(try clear hfz8_0);(try clear hfz8_1);(try clear hfz8_2);(try clear hfz8_3);(try clear hfz9_0);(try clear hfz9_1);(try clear hfz9_2);(try clear hfz9_3);obtain ⟨kq,x31_1,rfl,HA,HJ1,BK184,HB⟩:=hcut;cases kq with
  | zero=>exact absurd HA.out (by simp [impl_RowOk.j0])
  | succ kj1 =>
   have H:=HA.out;clear HA;simp only [impl_RowOk.j0] at H
   by_cases c11 : x31_1 = true
   ·subst c11
    have H1 : (some 1) = some r:=by rw [if_pos rfl] at H;exact H
    clear H;have H:=H1;clear H1;obtain rfl:=Option.some.inj H;go_wp2;go_ret
    exact ⟨by first|rfl|(simp [errW_none,errW_some] <;> rfl)|(simp [*,errW_none,errW_some] <;> rfl),by repeat (first|(with_reducible first|exact HB.out|apply zA|apply zB|apply zC|refine zF ?_ GE184.out)|exact HB.out)⟩
   ·replace c11:=Bool.eq_false_iff.mpr c11;subst c11
    have H1 : (impl_RowOk.l0 kj1 (l0_0.length : Int) (l0_0.length : Int) 0 l0_0 l0_1 l0_2 l0_3) = some r:=by rw [if_neg (show ¬ (false = true) by decide)] at H;exact H
    clear H;have H:=H1;clear H1;have H':=zm H;clear H;go_wp2;go_loopg [33] kj1 (fun kq v33 w'=>∃ (x33_2 : Int),v33 = .int .i64 x33_2∧Aside0 (impl_RowOk.l0 kq (l0_0.length : Int) (l0_0.length : Int) x33_2 l0_0 l0_1 l0_2 l0_3 = some r)∧Aside0 (kq ≤ kj1)∧Aside0 (w'.heap[gb184]? = some (.cells #[(.slice A0_0 l0_0.length c0_0),(.slice A0_1 l0_1.length c0_1),(.slice A0_2 l0_2.length c0_2),(.slice A0_3 l0_3.length c0_3)] 27 (0,0)))∧Aside0 (Below w.heap.size w w'))
    case atStart=>exact ⟨(0),(by first|rfl|(simp;done)|(simp [*];done)),H',⟨Nat.le_refl _⟩,⟨by (with_reducible repeat (first|refine zH ?_ _|refine zI ?_|refine zG ?_ _));exact BK184.out⟩,⟨by repeat (first|(with_reducible first|exact HB.out|apply zA|apply zB|apply zC|refine zF ?_ GE184.out)|exact HB.out)⟩⟩
    case round =>
     clear H';(try clear c1);(try clear c2);(try clear p2);(try clear c5);(try clear c5b0);(try clear c5b1);(try clear c6);(try clear c6b0);(try clear c6b1);(try clear c6b2);(try clear c7);(try clear c7b0);(try clear c7b1);(try clear c7b2);(try clear c11);(try clear hcz10_0);(try clear hcz10_1);(try clear hcz10_2);(try clear hcz10_3);(try clear hcz4_0);(try clear hcz4_1);(try clear hcz4_2);(try clear hcz4_3);(try clear hcz8_0);(try clear hcz8_1);(try clear hcz8_2);(try clear hcz8_3);(try clear hcz9_0);(try clear hcz9_1);(try clear hcz9_2);(try clear hcz9_3);(try clear hfz10_0);(try clear hfz10_1);(try clear hfz10_2);(try clear hfz10_3);(try clear hfz4_0);(try clear hfz4_1);(try clear hfz4_2);(try clear hfz4_3);(try clear hfz8_0);(try clear hfz8_1);(try clear hfz8_2);(try clear hfz8_3);(try clear hfz9_0);(try clear hfz9_1);(try clear hfz9_2);(try clear hfz9_3);(try clear p2);obtain ⟨x33_2,rfl,HA,HK2,BK184,HB⟩:=hrel;cases gk with
     | zero=>exact absurd HA.out (by simp [impl_RowOk.l0])
     | succ k2 =>
      have H:=HA.out;clear HA;simp only [impl_RowOk.l0] at H
      by_cases c12 : x33_2 < (l0_0.length : Int)
      ·rw [if_pos c12] at H;have c12b0 : decide (x33_2 < (l0_0.length : Int)) = true:=decide_eq_true c12;clear c12;by_cases c13 : 0 ≤ x33_2
       ·rw [if_pos c13] at H;have c13b0 : decide (0 ≤ x33_2) = true:=decide_eq_true c13;clear c13;by_cases c14 : x33_2 < (l0_0.length : Int)
        ·rw [if_pos c14] at H;have c14b0 : decide (x33_2 < (l0_0.length : Int)) = true:=decide_eq_true c14;clear c14;by_cases c15 : (rd l0_0 x33_2) < (-1)
         ·rw [if_pos c15] at H;have c15b0 : decide ((rd l0_0 x33_2) < (-1)) = true:=decide_eq_true c15;clear c15;obtain rfl:=Option.some.inj H;have hcz16_0 : wr.cell? ⟨gb184,0,none⟩ = some (.slice A0_0 l0_0.length c0_0):=(zD BK184.out 0).trans rfl;have hcz16_1 : wr.cell? ⟨gb184,1,none⟩ = some (.slice A0_1 l0_1.length c0_1):=(zD BK184.out 1).trans rfl;have hcz16_2 : wr.cell? ⟨gb184,2,none⟩ = some (.slice A0_2 l0_2.length c0_2):=(zD BK184.out 2).trans rfl;have hcz16_3 : wr.cell? ⟨gb184,3,none⟩ = some (.slice A0_3 l0_3.length c0_3):=(zD BK184.out 3).trans rfl;have hfz16_0:=zE BK184.out 0;have hfz16_1:=zE BK184.out 1;have hfz16_2:=zE BK184.out 2;have hfz16_3:=zE BK184.out 3;have p185 : 0 ≤ (x33_2 : Int):=of_decide_eq_true (by first|(with_reducible assumption)|assumption)
          have q185 : x33_2 < (l0_0.length : Int):=of_decide_eq_true (by first|(with_reducible assumption)|assumption)
          obtain ⟨ad185,e185,hx185_0⟩:=Kd.at_int HR0_0.out x33_2 p185 q185;cases e185;replace hx185_0:=(HB.out.cell (World.block_lt_of_cell? w _ hx185_0)).trans hx185_0;replace p185:=eq_true p185;replace q185:=eq_true q185;go_wp2;go_ret
          exact ⟨by first|rfl|(simp [errW_none,errW_some] <;> rfl)|(simp [*,errW_none,errW_some] <;> rfl),by repeat (first|(with_reducible first|exact HB.out|apply zA|apply zB|apply zC|refine zF ?_ GE184.out)|exact HB.out)⟩
         ·rw [if_neg c15] at H;have c15b0 : decide ((rd l0_0 x33_2) < (-1)) = false:=decide_eq_false c15;clear c15;by_cases c17 : (rd l0_0 x33_2) ≥ (l0_0.length : Int)
          ·rw [if_pos c17] at H;have c17b0 : decide ((l0_0.length : Int) ≤ (rd l0_0 x33_2)) = true:=decide_eq_true c17;clear c17;obtain rfl:=Option.some.inj H;have hcz18_0 : wr.cell? ⟨gb184,0,none⟩ = some (.slice A0_0 l0_0.length c0_0):=(zD BK184.out 0).trans rfl;have hcz18_1 : wr.cell? ⟨gb184,1,none⟩ = some (.slice A0_1 l0_1.length c0_1):=(zD BK184.out 1).trans rfl;have hcz18_2 : wr.cell? ⟨gb184,2,none⟩ = some (.slice A0_2 l0_2.length c0_2):=(zD BK184.out 2).trans rfl;have hcz18_3 : wr.cell? ⟨gb184,3,none⟩ = some (.slice A0_3 l0_3.length c0_3):=(zD BK184.out 3).trans rfl;have hfz18_0:=zE BK184.out 0;have hfz18_1:=zE BK184.out 1;have hfz18_2:=zE BK184.out 2;have hfz18_3:=zE BK184.out 3;have p185 : 0 ≤ (x33_2 : Int):=of_decide_eq_true (by first|(with_reducible assumption)|assumption)
           have q185 : x33_2 < (l0_0.length : Int):=of_decide_eq_true (by first|(with_reducible assumption)|assumption)
           obtain ⟨ad185,e185,hx185_0⟩:=Kd.at_int HR0_0.out x33_2 p185 q185;cases e185;replace hx185_0:=(HB.out.cell (World.block_lt_of_cell? w _ hx185_0)).trans hx185_0;replace p185:=eq_true p185;replace q185:=eq_true q185;have p186 : 0 ≤ (x33_2 : Int):=of_decide_eq_true (by first|(with_reducible assumption)|assumption)
           have q186 : x33_2 < (l0_0.length : Int):=of_decide_eq_true (by first|(with_reducible assumption)|assumption)
           obtain ⟨ad186,e186,hx186_0⟩:=Kd.at_int HR0_0.out x33_2 p186 q186;obtain rfl : ad185 = ad186:=(by injection e186)
           replace hx186_0:=(HB.out.cell (World.block_lt_of_cell? w _ hx186_0)).trans hx186_0;replace p186:=eq_true p186;replace q186:=eq_true q186;go_wp2;go_ret
           exact ⟨by first|rfl|(simp [errW_none,errW_some] <;> rfl)|(simp [*,errW_none,errW_some] <;> rfl),by repeat (first|(with_reducible first|exact HB.out|apply zA|apply zB|apply zC|refine zF ?_ GE184.out)|exact HB.out)⟩
          ·rw [if_neg c17] at H;have c17b0 : decide ((l0_0.length : Int) ≤ (rd l0_0 x33_2)) = false:=decide_eq_false c17;clear c17;by_cases c19 : x33_2 < (l0_1.length : Int)
           ·rw [if_pos c19] at H;have c19b0 : decide (x33_2 < (l0_1.length : Int)) = true:=decide_eq_true c19;clear c19;by_cases c20 : (rd l0_1 x33_2) < 0
            ·rw [if_pos c20] at H;have c20b0 : decide ((rd l0_1 x33_2) < 0) = true:=decide_eq_true c20;clear c20;obtain rfl:=Option.some.inj H;have hcz21_0 : wr.cell? ⟨gb184,0,none⟩ = some (.slice A0_0 l0_0.length c0_0):=(zD BK184.out 0).trans rfl;have hcz21_1 : wr.cell? ⟨gb184,1,none⟩ = some (.slice A0_1 l0_1.length c0_1):=(zD BK184.out 1).trans rfl;have hcz21_2 : wr.cell? ⟨gb184,2,none⟩ = some (.slice A0_2 l0_2.length c0_2):=(zD BK184.out 2).trans rfl;have hcz21_3 : wr.cell? ⟨gb184,3,none⟩ = some (.slice A0_3 l0_3.length c0_3):=(zD BK184.out 3).trans rfl;have hfz21_0:=zE BK184.out 0;have hfz21_1:=zE BK184.out 1;have hfz21_2:=zE BK184.out 2;have hfz21_3:=zE BK184.out 3;have p185 : 0 ≤ (x33_2 : Int):=of_decide_eq_true (by first|(with_reducible assumption)|assumption)
             have q185 : x33_2 < (l0_0.length : Int):=of_decide_eq_true (by first|(with_reducible assumption)|assumption)
             obtain ⟨ad185,e185,hx185_0⟩:=Kd.at_int HR0_0.out x33_2 p185 q185;cases e185;replace hx185_0:=(HB.out.cell (World.block_lt_of_cell? w _ hx185_0)).trans hx185_0;replace p185:=eq_true p185;replace q185:=eq_true q185;have p186 : 0 ≤ (x33_2 : Int):=of_decide_eq_true (by first|(with_reducible assumption)|assumption)
             have q186 : x33_2 < (l0_0.length : Int):=of_decide_eq_true (by first|(with_reducible assumption)|assumption)
             obtain ⟨ad186,e186,hx186_0⟩:=Kd.at_int HR0_0.out x33_2 p186 q186;obtain rfl : ad185 = ad186:=(by injection e186)
             replace hx186_0:=(HB.out.cell (World.block_lt_of_cell? w _ hx186_0)).trans hx186_0;replace p186:=eq_true p186;replace q186:=eq_true q186;have p187 : 0 ≤ (x33_2 : Int):=of_decide_eq_true (by first|(with_reducible assumption)|assumption)
             have q187 : x33_2 < (l0_1.length : Int):=of_decide_eq_true (by first|(with_reducible assumption)|assumption)
             obtain ⟨ad187,e187,hx187_0⟩:=Kd.at_int HR0_1.out x33_2 p187 q187;cases e187;replace hx187_0:=(HB.out.cell (World.block_lt_of_cell? w _ hx187_0)).trans hx187_0;replace p187:=eq_true p187;replace q187:=eq_true q187;go_wp2;go_ret
             exact ⟨by first|rfl|(simp [errW_none,errW_some] <;> rfl)|(simp [*,errW_none,errW_some] <;> rfl),by repeat (first|(with_reducible first|exact HB.out|apply zA|apply zB|apply zC|refine zF ?_ GE184.out)|exact HB.out)⟩
            ·rw [if_neg c20] at H;have c20b0 : decide ((rd l0_1 x33_2) < 0) = false:=decide_eq_false c20;clear c20;by_cases c22 : (rd l0_1 x33_2) > 1000000
             ·rw [if_pos c22] at H;have c22b0 : decide (1000000 < (rd l0_1 x33_2)) = true:=decide_eq_true c22;clear c22;obtain rfl:=Option.some.inj H;have hcz23_0 : wr.cell? ⟨gb184,0,none⟩ = some (.slice A0_0 l0_0.length c0_0):=(zD BK184.out 0).trans rfl;have hcz23_1 : wr.cell? ⟨gb184,1,none⟩ = some (.slice A0_1 l0_1.length c0_1):=(zD BK184.out 1).trans rfl;have hcz23_2 : wr.cell? ⟨gb184,2,none⟩ = some (.slice A0_2 l0_2.length c0_2):=(zD BK184.out 2).trans rfl;have hcz23_3 : wr.cell? ⟨gb184,3,none⟩ = some (.slice A0_3 l0_3.length c0_3):=(zD BK184.out 3).trans rfl;have hfz23_0:=zE BK184.out 0;have hfz23_1:=zE BK184.out 1;have hfz23_2:=zE BK184.out 2;have hfz23_3:=zE BK184.out 3;have p185 : 0 ≤ (x33_2 : Int):=of_decide_eq_true (by first|(with_reducible assumption)|assumption)
              have q185 : x33_2 < (l0_0.length : Int):=of_decide_eq_true (by first|(with_reducible assumption)|assumption)
              obtain ⟨ad185,e185,hx185_0⟩:=Kd.at_int HR0_0.out x33_2 p185 q185;cases e185;replace hx185_0:=(HB.out.cell (World.block_lt_of_cell? w _ hx185_0)).trans hx185_0;replace p185:=eq_true p185;replace q185:=eq_true q185;have p186 : 0 ≤ (x33_2 : Int):=of_decide_eq_true (by first|(with_reducible assumption)|assumption)
              have q186 : x33_2 < (l0_0.length : Int):=of_decide_eq_true (by first|(with_reducible assumption)|assumption)
              obtain ⟨ad186,e186,hx186_0⟩:=Kd.at_int HR0_0.out x33_2 p186 q186;obtain rfl : ad185 = ad186:=(by injection e186)
              replace hx186_0:=(HB.out.cell (World.block_lt_of_cell? w _ hx186_0)).trans hx186_0;replace p186:=eq_true p186;replace q186:=eq_true q186;have p187 : 0 ≤ (x33_2 : Int):=of_decide_eq_true (by first|(with_reducible assumption)|assumption)
              have q187 : x33_2 < (l0_1.length : Int):=of_decide_eq_true (by first|(with_reducible assumption)|assumption)
              obtain ⟨ad187,e187,hx187_0⟩:=Kd.at_int HR0_1.out x33_2 p187 q187;cases e187;replace hx187_0:=(HB.out.cell (World.block_lt_of_cell? w _ hx187_0)).trans hx187_0;replace p187:=eq_true p187;replace q187:=eq_true q187;have p188 : 0 ≤ (x33_2 : Int):=of_decide_eq_true (by first|(with_reducible assumption)|assumption)
              have q188 : x33_2 < (l0_1.length : Int):=of_decide_eq_true (by first|(with_reducible assumption)|assumption)
              obtain ⟨ad188,e188,hx188_0⟩:=Kd.at_int HR0_1.out x33_2 p188 q188;obtain rfl : ad187 = ad188:=(by injection e188)
              replace hx188_0:=(HB.out.cell (World.block_lt_of_cell? w _ hx188_0)).trans hx188_0;replace p188:=eq_true p188;replace q188:=eq_true q188;go_wp2;go_ret
              exact ⟨by first|rfl|(simp [errW_none,errW_some] <;> rfl)|(simp [*,errW_none,errW_some] <;> rfl),by repeat (first|(with_reducible first|exact HB.out|apply zA|apply zB|apply zC|refine zF ?_ GE184.out)|exact HB.out)⟩
             ·rw [if_neg c22] at H;have c22b0 : decide (1000000 < (rd l0_1 x33_2)) = false:=decide_eq_false c22;clear c22;have H':=zm H;clear H;have hcz24_0 : wr.cell? ⟨gb184,0,none⟩ = some (.slice A0_0 l0_0.length c0_0):=(zD BK184.out 0).trans rfl;have hcz24_1 : wr.cell? ⟨gb184,1,none⟩ = some (.slice A0_1 l0_1.length c0_1):=(zD BK184.out 1).trans rfl;have hcz24_2 : wr.cell? ⟨gb184,2,none⟩ = some (.slice A0_2 l0_2.length c0_2):=(zD BK184.out 2).trans rfl;have hcz24_3 : wr.cell? ⟨gb184,3,none⟩ = some (.slice A0_3 l0_3.length c0_3):=(zD BK184.out 3).trans rfl;have hfz24_0:=zE BK184.out 0;have hfz24_1:=zE BK184.out 1;have hfz24_2:=zE BK184.out 2;have hfz24_3:=zE BK184.out 3;have p185 : 0 ≤ (x33_2 : Int):=of_decide_eq_true (by first|(with_reducible assumption)|assumption)
              have q185 : x33_2 < (l0_0.length : Int):=of_decide_eq_true (by first|(with_reducible assumption)|assumption)
              obtain ⟨ad185,e185,hx185_0⟩:=Kd.at_int HR0_0.out x33_2 p185 q185;cases e185;replace hx185_0:=(HB.out.cell (World.block_lt_of_cell? w _ hx185_0)).trans hx185_0;replace p185:=eq_true p185;replace q185:=eq_true q185;have p186 : 0 ≤ (x33_2 : Int):=of_decide_eq_true (by first|(with_reducible assumption)|assumption)
              have q186 : x33_2 < (l0_0.length : Int):=of_decide_eq_true (by first|(with_reducible assumption)|assumption)
              obtain ⟨ad186,e186,hx186_0⟩:=Kd.at_int HR0_0.out x33_2 p186 q186;obtain rfl : ad185 = ad186:=(by injection e186)
              replace hx186_0:=(HB.out.cell (World.block_lt_of_cell? w _ hx186_0)).trans hx186_0;replace p186:=eq_true p186;replace q186:=eq_true q186;have p187 : 0 ≤ (x33_2 : Int):=of_decide_eq_true (by first|(with_reducible assumption)|assumption)
              have q187 : x33_2 < (l0_1.length : Int):=of_decide_eq_true (by first|(with_reducible assumption)|assumption)
              obtain ⟨ad187,e187,hx187_0⟩:=Kd.at_int HR0_1.out x33_2 p187 q187;cases e187;replace hx187_0:=(HB.out.cell (World.block_lt_of_cell? w _ hx187_0)).trans hx187_0;replace p187:=eq_true p187;replace q187:=eq_true q187;have p188 : 0 ≤ (x33_2 : Int):=of_decide_eq_true (by first|(with_reducible assumption)|assumption)
              have q188 : x33_2 < (l0_1.length : Int):=of_decide_eq_true (by first|(with_reducible assumption)|assumption)
              obtain ⟨ad188,e188,hx188_0⟩:=Kd.at_int HR0_1.out x33_2 p188 q188;obtain rfl : ad187 = ad188:=(by injection e188)
              replace hx188_0:=(HB.out.cell (World.block_lt_of_cell? w _ hx188_0)).trans hx188_0;replace p188:=eq_true p188;replace q188:=eq_true q188;go_wp2;go_roundg k2
              case measure=>have:=HJ1.out;have:=HK2.out;omega
              case rel=>exact ⟨(wrap64 (x33_2 + 1)),(by first|rfl|(simp;done)|(simp [*];done)),H',⟨by have:=HJ1.out;have:=HK2.out;omega⟩,⟨by (with_reducible repeat (first|refine zH ?_ _|refine zI ?_|refine zG ?_ _));exact BK184.out⟩,⟨by repeat (first|(with_reducible first|exact HB.out|apply zA|apply zB|apply zC|refine zF ?_ GE184.out)|exact HB.out)⟩⟩
           ·rw [if_neg c19] at H;exact absurd H (by simp)
        ·rw [if_neg c14] at H;exact absurd H (by simp)
       ·rw [if_neg c13] at H;exact absurd H (by simp)
      ·rw [if_neg c12] at H;have c12b0 : decide (x33_2 < (l0_0.length : Int)) = false:=decide_eq_false c12;clear c12;have H':=zm H;clear H;go_wp2;go_loopg [69] k2 (fun kq v69 w'=>∃ (x69_3 : Int),v69 = .int .i64 x69_3∧Aside0 (impl_RowOk.l1 kq (l0_0.length : Int) x69_3 l0_0 l0_1 l0_2 l0_3 = some r)∧Aside0 (kq ≤ k2)∧Aside0 (w'.heap[gb184]? = some (.cells #[(.slice A0_0 l0_0.length c0_0),(.slice A0_1 l0_1.length c0_1),(.slice A0_2 l0_2.length c0_2),(.slice A0_3 l0_3.length c0_3)] 27 (0,0)))∧Aside0 (Below w.heap.size w w'))
       case atStart=>exact ⟨(0),(by first|rfl|(simp;done)|(simp [*];done)),H',⟨Nat.le_refl _⟩,⟨by (with_reducible repeat (first|refine zH ?_ _|refine zI ?_|refine zG ?_ _));exact BK184.out⟩,⟨by repeat (first|(with_reducible first|exact HB.out|apply zA|apply zB|apply zC|refine zF ?_ GE184.out)|exact HB.out)⟩⟩
       case round =>
        clear H';(try clear c1);(try clear p1);(try clear q1);(try clear hx1);(try clear c2);(try clear p2);(try clear c5);(try clear c5b0);(try clear c5b1);(try clear c6);(try clear c6b0);(try clear c6b1);(try clear c6b2);(try clear p6);(try clear c7);(try clear c7b0);(try clear c7b1);(try clear c7b2);(try clear c11);(try clear c12);(try clear c12b0);(try clear c13);(try clear c13b0);(try clear c14);(try clear c14b0);(try clear c15);(try clear c15b0);(try clear c17);(try clear c17b0);(try clear p18);(try clear q18);(try clear hx18);(try clear c19);(try clear c19b0);(try clear c20);(try clear c20b0);(try clear c22);(try clear c22b0);(try clear hcz10_0);(try clear hcz10_1);(try clear hcz10_2);(try clear hcz10_3);(try clear hcz16_0);(try clear hcz16_1);(try clear hcz16_2);(try clear hcz16_3);(try clear hcz18_0);(try clear hcz18_1);(try clear hcz18_2);(try clear hcz18_3);(try clear hcz21_0);(try clear hcz21_1);(try clear hcz21_2);(try clear hcz21_3);(try clear hcz23_0);(try clear hcz23_1);(try clear hcz23_2);(try clear hcz23_3);(try clear hcz24_0);(try clear hcz24_1);(try clear hcz24_2);(try clear hcz24_3);(try clear hcz4_0);(try clear hcz4_1);(try clear hcz4_2);(try clear hcz4_3);(try clear hcz8_0);(try clear hcz8_1);(try clear hcz8_2);(try clear hcz8_3);(try clear hcz9_0);(try clear hcz9_1);(try clear hcz9_2);(try clear hcz9_3);(try clear hfz10_0);(try clear hfz10_1);(try clear hfz10_2);(try clear hfz10_3);(try clear hfz16_0);(try clear hfz16_1);(try clear hfz16_2);(try clear hfz16_3);(try clear hfz18_0);(try clear hfz18_1);(try clear hfz18_2);(try clear hfz18_3);(try clear hfz21_0);(try clear hfz21_1);(try clear hfz21_2);(try clear hfz21_3);(try clear hfz23_0);(try clear hfz23_1);(try clear hfz23_2);(try clear hfz23_3);(try clear hfz24_0);(try clear hfz24_1);(try clear hfz24_2);(try clear hfz24_3);(try clear hfz4_0);(try clear hfz4_1);(try clear hfz4_2);(try clear hfz4_3);(try clear hfz8_0);(try clear hfz8_1);(try clear hfz8_2);(try clear hfz8_3);(try clear hfz9_0);(try clear hfz9_1);(try clear hfz9_2);(try clear hfz9_3);(try clear hx185_0);(try clear hx186_0);(try clear hx187_0);(try clear hx188_0);(try clear p185);(try clear p186);(try clear p187);(try clear p188);(try clear p2);(try clear q185);(try clear q186);(try clear q187);(try clear q188);obtain ⟨x69_3,rfl,HA,HK3,BK184,HB⟩:=hrel;cases gk with
        | zero=>exact absurd HA.out (by simp [impl_RowOk.l1])
        | succ k3 =>
         have H:=HA.out;clear HA;simp only [impl_RowOk.l1] at H
         by_cases c25 : x69_3 < (l0_0.length : Int)
         ·rw [if_pos c25] at H;have c25b0 : decide (x69_3 < (l0_0.length : Int)) = true:=decide_eq_true c25;clear c25;by_cases c26 : 0 ≤ x69_3
          ·rw [if_pos c26] at H;have c26b0 : decide (0 ≤ x69_3) = true:=decide_eq_true c26;clear c26;by_cases c27 : x69_3 < (l0_3.length : Int)
           ·rw [if_pos c27] at H;have c27b0 : decide (x69_3 < (l0_3.length : Int)) = true:=decide_eq_true c27;clear c27;by_cases c28 : ((rd_L3 l0_3 x69_3).length : Int) = 4
            ·rw [if_pos c28] at H;have c28b0 : (((rd_L3 l0_3 x69_3).length : Int) == 4) = true:=beq_iff_eq.mpr c28;have c28b1 : (((rd_L3 l0_3 x69_3).length : Int) != 4) = false:=bne_eq_false_iff_eq.mpr c28;clear c28;have H':=zm H;clear H;have hcz29_0 : wr.cell? ⟨gb184,0,none⟩ = some (.slice A0_0 l0_0.length c0_0):=(zD BK184.out 0).trans rfl;have hcz29_1 : wr.cell? ⟨gb184,1,none⟩ = some (.slice A0_1 l0_1.length c0_1):=(zD BK184.out 1).trans rfl;have hcz29_2 : wr.cell? ⟨gb184,2,none⟩ = some (.slice A0_2 l0_2.length c0_2):=(zD BK184.out 2).trans rfl;have hcz29_3 : wr.cell? ⟨gb184,3,none⟩ = some (.slice A0_3 l0_3.length c0_3):=(zD BK184.out 3).trans rfl;have hfz29_0:=zE BK184.out 0;have hfz29_1:=zE BK184.out 1;have hfz29_2:=zE BK184.out 2;have hfz29_3:=zE BK184.out 3;have p189 : 0 ≤ (x69_3 : Int):=of_decide_eq_true (by first|(with_reducible assumption)|assumption)
             have q189 : x69_3 < (l0_3.length : Int):=of_decide_eq_true (by first|(with_reducible assumption)|assumption)
             obtain ⟨ad189,A189_0,c189_0,e189,hx189_0,hl189_0,hi189_0⟩:=at_L3 HR0_3.out x69_3 p189 q189;cases e189;replace hx189_0:=(HB.out.cell (World.block_lt_of_cell? w _ hx189_0)).trans hx189_0;have HR189_0:=zm hi189_0;have HC189_0:=zm hl189_0;clear hi189_0 hl189_0;replace p189:=eq_true p189;replace q189:=eq_true q189;go_wp2;go_roundg k3
             case measure=>have:=HJ1.out;have:=HK2.out;have:=HK3.out;omega
             case rel=>exact ⟨(wrap64 (x69_3 + 1)),(by first|rfl|(simp;done)|(simp [*];done)),H',⟨by have:=HJ1.out;have:=HK2.out;have:=HK3.out;omega⟩,⟨by (with_reducible repeat (first|refine zH ?_ _|refine zI ?_|refine zG ?_ _));exact BK184.out⟩,⟨by repeat (first|(with_reducible first|exact HB.out|apply zA|apply zB|apply zC|refine zF ?_ GE184.out)|exact HB.out)⟩⟩
            ·rw [if_neg c28] at H;have c28b0 : (((rd_L3 l0_3 x69_3).length : Int) == 4) = false:=beq_eq_false_iff_ne.mpr c28;have c28b1 : (((rd_L3 l0_3 x69_3).length : Int) != 4) = true:=bne_iff_ne.mpr c28;obtain rfl:=Option.some.inj H;have hcz30_0 : wr.cell? ⟨gb184,0,none⟩ = some (.slice A0_0 l0_0.length c0_0):=(zD BK184.out 0).trans rfl;have hcz30_1 : wr.cell? ⟨gb184,1,none⟩ = some (.slice A0_1 l0_1.length c0_1):=(zD BK184.out 1).trans rfl;have hcz30_2 : wr.cell? ⟨gb184,2,none⟩ = some (.slice A0_2 l0_2.length c0_2):=(zD BK184.out 2).trans rfl;have hcz30_3 : wr.cell? ⟨gb184,3,none⟩ = some (.slice A0_3 l0_3.length c0_3):=(zD BK184.out 3).trans rfl;have hfz30_0:=zE BK184.out 0;have hfz30_1:=zE BK184.out 1;have hfz30_2:=zE BK184.out 2;have hfz30_3:=zE BK184.out 3;have p189 : 0 ≤ (x69_3 : Int):=of_decide_eq_true (by first|(with_reducible assumption)|assumption)
             have q189 : x69_3 < (l0_3.length : Int):=of_decide_eq_true (by first|(with_reducible assumption)|assumption)
             obtain ⟨ad189,A189_0,c189_0,e189,hx189_0,hl189_0,hi189_0⟩:=at_L3 HR0_3.out x69_3 p189 q189;cases e189;replace hx189_0:=(HB.out.cell (World.block_lt_of_cell? w _ hx189_0)).trans hx189_0;have HR189_0:=zm hi189_0;have HC189_0:=zm hl189_0;clear hi189_0 hl189_0;replace p189:=eq_true p189;replace q189:=eq_true q189;go_wp2;go_ret
             exact ⟨by first|rfl|(simp [errW_none,errW_some] <;> rfl)|(simp [*,errW_none,errW_some] <;> rfl),by repeat (first|(with_reducible first|exact HB.out|apply zA|apply zB|apply zC|refine zF ?_ GE184.out)|exact HB.out)⟩
           ·rw [if_neg c27] at H;exact absurd H (by simp)
          ·rw [if_neg c26] at H;exact absurd H (by simp)
         ·rw [if_neg c25] at H;have c25b0 : decide (x69_3 < (l0_0.length : Int)) = false:=decide_eq_false c25;clear c25;obtain rfl:=Option.some.inj H;go_wp2;go_ret
          exact ⟨by first|rfl|(simp [errW_none,errW_some] <;> rfl)|(simp [*,errW_none,errW_some] <;> rfl),by repeat (first|(with_reducible first|exact HB.out|apply zA|apply zB|apply zC|refine zF ?_ GE184.out)|exact HB.out)⟩

/-! ### impl_can: function 68 -/
def impl_can.l0 : Nat→List Bool→Int→Option (Int)
 | 0,_,_=>none
 | k + 1,x0,x1=>if x1 ≥ 0 then (if 0 ≤ x1 then (if x1 < (x0.length : Int) then (if rdOf false x0 x1 = true then (some x1) else (impl_can.l0 k x0 (wrap64 (x1 - 1)))) else (none)) else (none)) else (some x1)
def impl_can.f (k : Nat) (l0 : List Bool) (a1 : Int) : Option (Int):=impl_can.l0 k l0 a1
theorem impl_can.mono_l : ∀ k,(∀ y0 y1,LeO (impl_can.l0 k y0 y1) (impl_can.l0 (k + 1) y0 y1))
 | 0=>fun _ _ r h=>by simp [impl_can.l0] at h
 | k + 1=>by
  have ih0:=impl_can.mono_l k
  ·intro y0 y1
   unfold impl_can.l0
   repeat' first
   | (with_reducible exact ih0 _ _)
   | (with_reducible exact LeO.refl _)
   | (with_reducible exact LeO.none _)
   | (with_reducible refine LeO.ite ?_ ?_)
   | (with_reducible refine LeO.bind ?_ (fun _=>?_))
   | exact ih0 _ _
   | exact LeO.none _
   | refine LeO.ite ?_ ?_
   | refine LeO.bind ?_ (fun _=>?_)
theorem impl_can.mono : ∀ a0 a1 k,LeO (impl_can.f k a0 a1) (impl_can.f (k + 1) a0 a1):=by
 intro a0 a1 k
 have ih0:=impl_can.mono_l k;unfold impl_can.f
 repeat' first
   | (with_reducible exact ih0 _ _)
   | (with_reducible exact LeO.refl _)
   | (with_reducible exact LeO.none _)
   | (with_reducible refine LeO.ite ?_ ?_)
   | (with_reducible refine LeO.bind ?_ (fun _=>?_))
   | exact ih0 _ _
   | exact LeO.none _
   | refine LeO.ite ?_ ?_
   | refine LeO.bind ?_ (fun _=>?_)
set_option maxHeartbeats 8000000 in
set_option maxRecDepth 100000 in
theorem impl_can.calls (k : Nat) (A0 : Option Addr) (c0 : Nat) (l0 : List Bool) (a1 : Int) (r : Int) (w : World) (hr0 : Kd.C Kd.bool w A0 l0.length l0) (hc0 : l0.length ≤ c0) (h : impl_can.f k l0 a1 = some r) :
  Calls Try.prog 68 #[.slice A0 l0.length c0,.int .i64 a1] w fun e w'=>e = .returned (.int .i64 r)∧Drawn0 w w':=by
 have HR0:=zm hr0;have HC0:=zm hc0;clear hr0 hc0;have H : (impl_can.l0 k l0 a1) = some r:=h;clear h;have H':=zm H;clear H;go_enter Try.func68,Try.ntmps68
 go_wp2;go_loopg [1] k (fun kq v1 w'=>∃ (x1_1 : Int),v1 = .int .i64 x1_1∧Aside0 (impl_can.l0 kq l0 x1_1 = some r)∧Aside0 (kq ≤ k)∧Drawn0 w w')
 case atStart=>exact ⟨(a1),(by first|rfl|(simp;done)|(simp [*];done)),H',⟨Nat.le_refl _⟩,by repeat (first|exact Drawn0.refl _|apply Drawn0.step)⟩
 case round =>
  clear H';(try clear p2);obtain ⟨x1_1,rfl,HA,HK1,⟨m1,rfl⟩⟩:=hrel;cases gk with
  | zero=>exact absurd HA.out (by simp [impl_can.l0])
  | succ k1 =>
   have H:=HA.out;clear HA;simp only [impl_can.l0] at H
   by_cases c3 : x1_1 ≥ 0
   ·rw [if_pos c3] at H;have c3b0 : decide (0 ≤ x1_1) = true:=decide_eq_true c3;clear c3;by_cases c4 : 0 ≤ x1_1
    ·rw [if_pos c4] at H;have c4b0 : decide (0 ≤ x1_1) = true:=decide_eq_true c4;clear c4;by_cases c5 : x1_1 < (l0.length : Int)
     ·rw [if_pos c5] at H;have c5b0 : decide (x1_1 < (l0.length : Int)) = true:=decide_eq_true c5;clear c5;obtain ⟨bq6,hbq6⟩ : ∃ b_ : Bool,b_ = (rdOf false l0 x1_1):=⟨_,rfl⟩;replace H : (if bq6 = true then (some x1_1) else (impl_can.l0 k1 l0 (wrap64 (x1_1 - 1)))) = some r:=by rw [← hbq6] at H;exact H
      have Nbq6:=zm hbq6;clear hbq6;by_cases c7 : bq6 = true
      ·subst c7
       have H1 : (some x1_1) = some r:=by rw [if_pos rfl] at H;exact H
       clear H;have H:=H1;clear H1;obtain rfl:=Option.some.inj H;have p190 : 0 ≤ (x1_1 : Int):=of_decide_eq_true (by first|(with_reducible assumption)|assumption)
       have q190 : x1_1 < (l0.length : Int):=of_decide_eq_true (by first|(with_reducible assumption)|assumption)
       obtain ⟨ad190,e190,hx190_0⟩:=Kd.at_bool HR0.out x1_1 p190 q190;(try rw [← Nbq6.out] at hx190_0);cases e190;replace p190:=eq_true p190;replace q190:=eq_true q190;go_wp2;go_ret
       exact ⟨by first|rfl|(simp;done)|(simp [*];done),by repeat (first|exact Drawn0.refl _|apply Drawn0.step)⟩
      ·replace c7:=Bool.eq_false_iff.mpr c7;subst c7
       have H1 : (impl_can.l0 k1 l0 (wrap64 (x1_1 - 1))) = some r:=by rw [if_neg (show ¬ (false = true) by decide)] at H;exact H
       clear H;have H:=H1;clear H1;have H':=zm H;clear H;have p190 : 0 ≤ (x1_1 : Int):=of_decide_eq_true (by first|(with_reducible assumption)|assumption)
       have q190 : x1_1 < (l0.length : Int):=of_decide_eq_true (by first|(with_reducible assumption)|assumption)
       obtain ⟨ad190,e190,hx190_0⟩:=Kd.at_bool HR0.out x1_1 p190 q190;(try rw [← Nbq6.out] at hx190_0);cases e190;replace p190:=eq_true p190;replace q190:=eq_true q190;go_wp2;go_roundg k1
       case measure=>have:=HK1.out;omega
       case rel=>exact ⟨(wrap64 (x1_1 - 1)),(by first|rfl|(simp;done)|(simp [*];done)),H',⟨by have:=HK1.out;omega⟩,by repeat (first|exact Drawn0.refl _|apply Drawn0.step)⟩
     ·rw [if_neg c5] at H;exact absurd H (by simp)
    ·rw [if_neg c4] at H;exact absurd H (by simp)
   ·rw [if_neg c3] at H;have c3b0 : decide (0 ≤ x1_1) = false:=decide_eq_false c3;clear c3;obtain rfl:=Option.some.inj H;go_wp2;go_ret
    exact ⟨by first|rfl|(simp;done)|(simp [*];done),by repeat (first|exact Drawn0.refl _|apply Drawn0.step)⟩

/-! ### spec_l1in: function 52 -/
def spec_l1in.f (a0 : Int) (a1 : Int) (a2 : Int) : Option (Bool):=if a0 ≥ a1 then (some (decide (a0 ≤ a2))) else (some false)
set_option maxHeartbeats 8000000 in
set_option maxRecDepth 100000 in
theorem spec_l1in.calls (a0 : Int) (a1 : Int) (a2 : Int) (r : Bool) (w : World) (h : spec_l1in.f a0 a1 a2 = some r) :
  Calls Try.prog 52 #[.int .i64 a0,.int .i64 a1,.int .i64 a2] w fun e w'=>e = .returned (.bool r)∧Drawn0 w w':=by
 have H : (if a0 ≥ a1 then (some (decide (a0 ≤ a2))) else (some false)) = some r:=h;clear h;by_cases c4 : a0 ≥ a1
 ·rw [if_pos c4] at H;have c4b0 : decide (a1 ≤ a0) = true:=decide_eq_true c4;clear c4;obtain rfl:=Option.some.inj H;go_enter Try.func52,Try.ntmps52
  go_wp2;go_ret
  exact ⟨by first|rfl|(simp;done)|(simp [*];done),by repeat (first|exact Drawn0.refl _|apply Drawn0.step)⟩
 ·rw [if_neg c4] at H;have c4b0 : decide (a1 ≤ a0) = false:=decide_eq_false c4;clear c4;obtain rfl:=Option.some.inj H;go_enter Try.func52,Try.ntmps52
  go_wp2;go_ret
  exact ⟨by first|rfl|(simp;done)|(simp [*];done),by repeat (first|exact Drawn0.refl _|apply Drawn0.step)⟩

/-! ### spec_RowOk: function 23 -/
mutual
def spec_RowOk.j0 : Nat→Int→Bool→List Int→List Int→List Bool→List (List Bool)→Option (Int)
 | 0,_,_,_,_,_,_=>none
 | k + 1,x3,x33,x234000,x234001,x234002,x234003=>if x33 = true then (some 1) else (spec_RowOk.l0 k x3 x234000 (x234000.length : Int) 0 x234000 x234001 x234002 x234003)
def spec_RowOk.l0 : Nat→Int→List Int→Int→Int→List Int→List Int→List Bool→List (List Bool)→Option (Int)
 | 0,_,_,_,_,_,_,_,_=>none
 | k + 1,x3,x35,x36,x37,x234000,x234001,x234002,x234003=>if x37 < x36 then (if 0 ≤ x37 then (if x37 < (x35.length : Int) then ((spec_l1in.f (rd x35 x37) (-1) (wrap64 (x3 - 1))).bind fun t235=>(if t235 = true then (if x37 < (x234001.length : Int) then ((spec_l1in.f (rd x234001 x37) 0 1000000).bind fun t237=>(if t237 = true then (spec_RowOk.l0 k x3 x35 x36 (wrap64 (x37 + 1)) x234000 x234001 x234002 x234003) else (some 2))) else (none)) else (some 2))) else (none)) else (none)) else (spec_RowOk.l1 k x234003 (x234003.length : Int) 0)
def spec_RowOk.l1 : Nat→List (List Bool)→Int→Int→Option (Int)
 | 0,_,_,_=>none
 | k + 1,x58,x59,x60=>if x60 < x59 then (if 0 ≤ x60 then (if x60 < (x58.length : Int) then (if ((rd_L3 x58 x60).length : Int) = 4 then (spec_RowOk.l1 k x58 x59 (wrap64 (x60 + 1))) else (some 3)) else (none)) else (none)) else (some 0)
end
def spec_RowOk.f (k : Nat) (l0_0 : List Int) (l0_1 : List Int) (l0_2 : List Bool) (l0_3 : List (List Bool)) : Option (Int):=if (l0_0.length : Int) > 60 then (spec_RowOk.j0 k (l0_0.length : Int) true l0_0 l0_1 l0_2 l0_3) else (if (l0_1.length : Int) = (l0_0.length : Int) then (if (l0_2.length : Int) = (l0_0.length : Int) then (spec_RowOk.j0 k (l0_0.length : Int) ((l0_3.length : Int) != (l0_0.length : Int)) l0_0 l0_1 l0_2 l0_3) else (spec_RowOk.j0 k (l0_0.length : Int) true l0_0 l0_1 l0_2 l0_3)) else (spec_RowOk.j0 k (l0_0.length : Int) true l0_0 l0_1 l0_2 l0_3))
theorem spec_RowOk.mono_l : ∀ k,(∀ y0 y1 y2 y3 y4 y5,LeO (spec_RowOk.j0 k y0 y1 y2 y3 y4 y5) (spec_RowOk.j0 (k + 1) y0 y1 y2 y3 y4 y5))∧(∀ y0 y1 y2 y3 y4 y5 y6 y7,LeO (spec_RowOk.l0 k y0 y1 y2 y3 y4 y5 y6 y7) (spec_RowOk.l0 (k + 1) y0 y1 y2 y3 y4 y5 y6 y7))∧(∀ y0 y1 y2,LeO (spec_RowOk.l1 k y0 y1 y2) (spec_RowOk.l1 (k + 1) y0 y1 y2))
 | 0=>⟨fun _ _ _ _ _ _ r h=>by simp [spec_RowOk.j0] at h,fun _ _ _ _ _ _ _ _ r h=>by simp [spec_RowOk.l0] at h,fun _ _ _ r h=>by simp [spec_RowOk.l1] at h⟩
 | k + 1=>by
  obtain ⟨ih0,ih1,ih2⟩:=spec_RowOk.mono_l k;refine ⟨?_,?_,?_⟩
  ·intro y0 y1 y2 y3 y4 y5
   unfold spec_RowOk.j0
   repeat' first
   | (with_reducible exact ih0 _ _ _ _ _ _)
   | (with_reducible exact ih1 _ _ _ _ _ _ _ _)
   | (with_reducible exact ih2 _ _ _)
   | (with_reducible exact LeO.refl _)
   | (with_reducible exact LeO.none _)
   | (with_reducible refine LeO.ite ?_ ?_)
   | (with_reducible refine LeO.bind ?_ (fun _=>?_))
   | exact ih0 _ _ _ _ _ _
   | exact ih1 _ _ _ _ _ _ _ _
   | exact ih2 _ _ _
   | exact LeO.none _
   | refine LeO.ite ?_ ?_
   | refine LeO.bind ?_ (fun _=>?_)
  ·intro y0 y1 y2 y3 y4 y5 y6 y7
   unfold spec_RowOk.l0
   repeat' first
   | (with_reducible exact ih0 _ _ _ _ _ _)
   | (with_reducible exact ih1 _ _ _ _ _ _ _ _)
   | (with_reducible exact ih2 _ _ _)
   | (with_reducible exact LeO.refl _)
   | (with_reducible exact LeO.none _)
   | (with_reducible refine LeO.ite ?_ ?_)
   | (with_reducible refine LeO.bind ?_ (fun _=>?_))
   | exact ih0 _ _ _ _ _ _
   | exact ih1 _ _ _ _ _ _ _ _
   | exact ih2 _ _ _
   | exact LeO.none _
   | refine LeO.ite ?_ ?_
   | refine LeO.bind ?_ (fun _=>?_)
  ·intro y0 y1 y2
   unfold spec_RowOk.l1
   repeat' first
   | (with_reducible exact ih0 _ _ _ _ _ _)
   | (with_reducible exact ih1 _ _ _ _ _ _ _ _)
   | (with_reducible exact ih2 _ _ _)
   | (with_reducible exact LeO.refl _)
   | (with_reducible exact LeO.none _)
   | (with_reducible refine LeO.ite ?_ ?_)
   | (with_reducible refine LeO.bind ?_ (fun _=>?_))
   | exact ih0 _ _ _ _ _ _
   | exact ih1 _ _ _ _ _ _ _ _
   | exact ih2 _ _ _
   | exact LeO.none _
   | refine LeO.ite ?_ ?_
   | refine LeO.bind ?_ (fun _=>?_)
theorem spec_RowOk.mono : ∀ a0 a1 a2 a3 k,LeO (spec_RowOk.f k a0 a1 a2 a3) (spec_RowOk.f (k + 1) a0 a1 a2 a3):=by
 intro a0 a1 a2 a3 k
 obtain ⟨ih0,ih1,ih2⟩:=spec_RowOk.mono_l k;unfold spec_RowOk.f
 repeat' first
   | (with_reducible exact ih0 _ _ _ _ _ _)
   | (with_reducible exact ih1 _ _ _ _ _ _ _ _)
   | (with_reducible exact ih2 _ _ _)
   | (with_reducible exact LeO.refl _)
   | (with_reducible exact LeO.none _)
   | (with_reducible refine LeO.ite ?_ ?_)
   | (with_reducible refine LeO.bind ?_ (fun _=>?_))
   | exact ih0 _ _ _ _ _ _
   | exact ih1 _ _ _ _ _ _ _ _
   | exact ih2 _ _ _
   | exact LeO.none _
   | refine LeO.ite ?_ ?_
   | refine LeO.bind ?_ (fun _=>?_)
set_option maxHeartbeats 8000000 in
set_option maxRecDepth 100000 in
theorem spec_RowOk.calls (k : Nat) (A0_0 : Option Addr) (c0_0 : Nat) (l0_0 : List Int) (A0_1 : Option Addr) (c0_1 : Nat) (l0_1 : List Int) (A0_2 : Option Addr) (c0_2 : Nat) (l0_2 : List Bool) (A0_3 : Option Addr) (c0_3 : Nat) (l0_3 : List (List Bool)) (r : Int) (w : World) (hr0_0 : Kd.C (Kd.int .i64) w A0_0 l0_0.length l0_0) (hc0_0 : l0_0.length ≤ c0_0) (hr0_1 : Kd.C (Kd.int .i64) w A0_1 l0_1.length l0_1) (hc0_1 : l0_1.length ≤ c0_1) (hr0_2 : Kd.C Kd.bool w A0_2 l0_2.length l0_2) (hc0_2 : l0_2.length ≤ c0_2) (hr0_3 : Kd.C (Kd.slice 4 Kd.bool) w A0_3 l0_3.length l0_3) (hc0_3 : l0_3.length ≤ c0_3) (h : spec_RowOk.f k l0_0 l0_1 l0_2 l0_3 = some r) :
  Calls Try.prog 23 #[.agg #[.slice A0_0 l0_0.length c0_0,.slice A0_1 l0_1.length c0_1,.slice A0_2 l0_2.length c0_2,.slice A0_3 l0_3.length c0_3]] w fun e w'=>e = .returned (.int .i64 r)∧Below w.heap.size w w':=by
 have hu27:=Try.underlying27;have HR0_0:=zm hr0_0;have HC0_0:=zm hc0_0;clear hr0_0 hc0_0;have HR0_1:=zm hr0_1;have HC0_1:=zm hc0_1;clear hr0_1 hc0_1;have HR0_2:=zm hr0_2;have HC0_2:=zm hc0_2;clear hr0_2 hc0_2;have HR0_3:=zm hr0_3;have HC0_3:=zm hc0_3;clear hr0_3 hc0_3;have HB:=zm (Below.refl w.heap.size w);have H : (if (l0_0.length : Int) > 60 then (spec_RowOk.j0 k (l0_0.length : Int) true l0_0 l0_1 l0_2 l0_3) else (if (l0_1.length : Int) = (l0_0.length : Int) then (if (l0_2.length : Int) = (l0_0.length : Int) then (spec_RowOk.j0 k (l0_0.length : Int) ((l0_3.length : Int) != (l0_0.length : Int)) l0_0 l0_1 l0_2 l0_3) else (spec_RowOk.j0 k (l0_0.length : Int) true l0_0 l0_1 l0_2 l0_3)) else (spec_RowOk.j0 k (l0_0.length : Int) true l0_0 l0_1 l0_2 l0_3))) = some r:=h;clear h;have HC2:=zm H;clear H;go_enter Try.func23,Try.ntmps23
 go_upto_region 2 with (first|((with_reducible refine zM (N:=1) rfl ?_);(try (refine gate_guard (by rfl) ?_;dsimp only));refine zN ?hg (N:=1) ?hd (cs:=#[.slice A0_0 l0_0.length c0_0,.slice A0_1 l0_1.length c0_1,.slice A0_2 l0_2.length c0_2,.slice A0_3 l0_3.length c0_3]) (t:=27) ?hr ?_;(case hd=>rfl);(case hg=>rfl);(case hr=>first|(go_simp;done)|(go_simp;rfl));intro gb233 hg w3 hbox hb;have n0_:=zm (zK (by repeat (first|(with_reducible first|exact HB.out|apply zA|apply zB|apply zC)|exact HB.out)) hb);have n1_:=zm (hbox);have n2_:=zm ((by rw [hg];exact (zJ (by repeat (first|(with_reducible first|exact HB.out|apply zA|apply zB|apply zC)|exact HB.out))) : w.heap.size ≤ gb233));have n3_:=zm ((by rw [hg];exact (zJ (by repeat (first|(with_reducible first|exact HB.out|apply zA|apply zB|apply zC)|exact HB.out))) : w.heap.size ≤ gb233));clear HB;have HB:=n0_;have BK233:=n1_;have GW233:=n2_;have GE233:=n3_;clear n0_ n1_ n2_ n3_;clear hb hbox hg;have hcz4_0 : w3.cell? ⟨gb233,0,none⟩ = some (.slice A0_0 l0_0.length c0_0):=(zD BK233.out 0).trans rfl;have hcz4_1 : w3.cell? ⟨gb233,1,none⟩ = some (.slice A0_1 l0_1.length c0_1):=(zD BK233.out 1).trans rfl;have hcz4_2 : w3.cell? ⟨gb233,2,none⟩ = some (.slice A0_2 l0_2.length c0_2):=(zD BK233.out 2).trans rfl;have hcz4_3 : w3.cell? ⟨gb233,3,none⟩ = some (.slice A0_3 l0_3.length c0_3):=(zD BK233.out 3).trans rfl;have hfz4_0:=zE BK233.out 0;have hfz4_1:=zE BK233.out 1;have hfz4_2:=zE BK233.out 2;have hfz4_3:=zE BK233.out 3))
 (try simp only [Act.put,List.setIfInBounds_toArray,List.set_cons_zero,List.set_cons_succ]);go_cut [33] (fun v33 wc=>∃ (kq : Nat) (x33_1 : Bool),v33 = .bool x33_1∧Aside0 (spec_RowOk.j0 kq (l0_0.length : Int) x33_1 l0_0 l0_1 l0_2 l0_3 = some r)∧Aside0 (kq ≤ k)∧Aside0 (wc.heap[gb233]? = some (.cells #[(.slice A0_0 l0_0.length c0_0),(.slice A0_1 l0_1.length c0_1),(.slice A0_2 l0_2.length c0_2),(.slice A0_3 l0_3.length c0_3)] 27 (0,0)))∧Aside0 (Below w.heap.size w wc))
 case first =>
  have H:=HC2.out;clear HC2;by_cases c5 : (l0_0.length : Int) > 60
  ·rw [if_pos c5] at H;have c5b0 : decide (60 < (l0_0.length : Int)) = true:=decide_eq_true c5;have c5b1 : decide (60 < l0_0.length) = true:=decide_eq_true (by omega)
   clear c5;(first|rw [c5b0]|(simp only [i64_w,i32_w];rw [c5b0])|skip)
   have H':=zm H;clear H;go_wp2;go_meet
   case rel=>exact ⟨_,(true),(by first|rfl|(simp;done)|(simp [*];done)),H',⟨by first|omega|exact Nat.le_refl _⟩,⟨by (with_reducible repeat (first|refine zH ?_ _|refine zI ?_|refine zG ?_ _));exact BK233.out⟩,⟨by repeat (first|(with_reducible first|exact HB.out|apply zA|apply zB|apply zC|refine zF ?_ GE233.out)|exact HB.out)⟩⟩
  ·rw [if_neg c5] at H;have c5b0 : decide (60 < (l0_0.length : Int)) = false:=decide_eq_false c5;have c5b1 : decide (60 < l0_0.length) = false:=decide_eq_false (by omega)
   clear c5;(first|rw [c5b0]|(simp only [i64_w,i32_w];rw [c5b0])|skip)
   by_cases c6 : (l0_1.length : Int) = (l0_0.length : Int)
   ·rw [if_pos c6] at H;have c6b0 : ((l0_1.length : Int) == (l0_0.length : Int)) = true:=beq_iff_eq.mpr c6;have c6b1 : ((l0_1.length : Int) != (l0_0.length : Int)) = false:=bne_eq_false_iff_eq.mpr c6;have c6b2 : (l0_1.length == l0_0.length) = true:=by first|simpa using c6|(simp at c6 ⊢;omega)
    clear c6;by_cases c7 : (l0_2.length : Int) = (l0_0.length : Int)
    ·rw [if_pos c7] at H;have c7b0 : ((l0_2.length : Int) == (l0_0.length : Int)) = true:=beq_iff_eq.mpr c7;have c7b1 : ((l0_2.length : Int) != (l0_0.length : Int)) = false:=bne_eq_false_iff_eq.mpr c7;have c7b2 : (l0_2.length == l0_0.length) = true:=by first|simpa using c7|(simp at c7 ⊢;omega)
     clear c7;have H':=zm H;clear H;have hcz8_0 : w3.cell? ⟨gb233,0,none⟩ = some (.slice A0_0 l0_0.length c0_0):=(zD BK233.out 0).trans rfl;have hcz8_1 : w3.cell? ⟨gb233,1,none⟩ = some (.slice A0_1 l0_1.length c0_1):=(zD BK233.out 1).trans rfl;have hcz8_2 : w3.cell? ⟨gb233,2,none⟩ = some (.slice A0_2 l0_2.length c0_2):=(zD BK233.out 2).trans rfl;have hcz8_3 : w3.cell? ⟨gb233,3,none⟩ = some (.slice A0_3 l0_3.length c0_3):=(zD BK233.out 3).trans rfl;have hfz8_0:=zE BK233.out 0;have hfz8_1:=zE BK233.out 1;have hfz8_2:=zE BK233.out 2;have hfz8_3:=zE BK233.out 3;go_wp2;go_meet
     case rel=>exact ⟨_,(((l0_3.length : Int) != (l0_0.length : Int))),(by first|rfl|(simp;done)|(simp [*];done)),H',⟨by first|omega|exact Nat.le_refl _⟩,⟨by (with_reducible repeat (first|refine zH ?_ _|refine zI ?_|refine zG ?_ _));exact BK233.out⟩,⟨by repeat (first|(with_reducible first|exact HB.out|apply zA|apply zB|apply zC|refine zF ?_ GE233.out)|exact HB.out)⟩⟩
    ·rw [if_neg c7] at H;have c7b0 : ((l0_2.length : Int) == (l0_0.length : Int)) = false:=beq_eq_false_iff_ne.mpr c7;have c7b1 : ((l0_2.length : Int) != (l0_0.length : Int)) = true:=bne_iff_ne.mpr c7;have c7b2 : (l0_2.length == l0_0.length) = false:=by first|simpa using c7|(simp at c7 ⊢;omega)
     have H':=zm H;clear H;have hcz9_0 : w3.cell? ⟨gb233,0,none⟩ = some (.slice A0_0 l0_0.length c0_0):=(zD BK233.out 0).trans rfl;have hcz9_1 : w3.cell? ⟨gb233,1,none⟩ = some (.slice A0_1 l0_1.length c0_1):=(zD BK233.out 1).trans rfl;have hcz9_2 : w3.cell? ⟨gb233,2,none⟩ = some (.slice A0_2 l0_2.length c0_2):=(zD BK233.out 2).trans rfl;have hcz9_3 : w3.cell? ⟨gb233,3,none⟩ = some (.slice A0_3 l0_3.length c0_3):=(zD BK233.out 3).trans rfl;have hfz9_0:=zE BK233.out 0;have hfz9_1:=zE BK233.out 1;have hfz9_2:=zE BK233.out 2;have hfz9_3:=zE BK233.out 3;go_wp2;go_meet
     case rel=>exact ⟨_,(true),(by first|rfl|(simp;done)|(simp [*];done)),H',⟨by first|omega|exact Nat.le_refl _⟩,⟨by (with_reducible repeat (first|refine zH ?_ _|refine zI ?_|refine zG ?_ _));exact BK233.out⟩,⟨by repeat (first|(with_reducible first|exact HB.out|apply zA|apply zB|apply zC|refine zF ?_ GE233.out)|exact HB.out)⟩⟩
   ·rw [if_neg c6] at H;have c6b0 : ((l0_1.length : Int) == (l0_0.length : Int)) = false:=beq_eq_false_iff_ne.mpr c6;have c6b1 : ((l0_1.length : Int) != (l0_0.length : Int)) = true:=bne_iff_ne.mpr c6;have c6b2 : (l0_1.length == l0_0.length) = false:=by first|simpa using c6|(simp at c6 ⊢;omega)
    have H':=zm H;clear H;have hcz10_0 : w3.cell? ⟨gb233,0,none⟩ = some (.slice A0_0 l0_0.length c0_0):=(zD BK233.out 0).trans rfl;have hcz10_1 : w3.cell? ⟨gb233,1,none⟩ = some (.slice A0_1 l0_1.length c0_1):=(zD BK233.out 1).trans rfl;have hcz10_2 : w3.cell? ⟨gb233,2,none⟩ = some (.slice A0_2 l0_2.length c0_2):=(zD BK233.out 2).trans rfl;have hcz10_3 : w3.cell? ⟨gb233,3,none⟩ = some (.slice A0_3 l0_3.length c0_3):=(zD BK233.out 3).trans rfl;have hfz10_0:=zE BK233.out 0;have hfz10_1:=zE BK233.out 1;have hfz10_2:=zE BK233.out 2;have hfz10_3:=zE BK233.out 3;go_wp2;go_meet
    case rel=>exact ⟨_,(true),(by first|rfl|(simp;done)|(simp [*];done)),H',⟨by first|omega|exact Nat.le_refl _⟩,⟨by (with_reducible repeat (first|refine zH ?_ _|refine zI ?_|refine zG ?_ _));exact BK233.out⟩,⟨by repeat (first|(with_reducible first|exact HB.out|apply zA|apply zB|apply zC|refine zF ?_ GE233.out)|exact HB.out)⟩⟩
 case rest =>
  clear HC2;(try clear c2);(try clear p2);(try clear c5);(try clear c5b0);(try clear c5b1);(try clear c6);(try clear c6b0);(try clear c6b1);(try clear c6b2);(try clear c7);(try clear c7b0);(try clear c7b1);(try clear c7b2);(try clear hcz10_0);(try clear hcz10_1);(try clear hcz10_2);(try clear hcz10_3);(try clear hcz4_0);(try clear hcz4_1);(try clear hcz4_2);(try clear hcz4_3);(try clear hcz8_0);(try clear hcz8_1);(try clear hcz8_2);(try clear hcz8_3);(try clear hcz9_0);(try clear hcz9_1);(try clear hcz9_2);(try clear hcz9_3);(try clear hfz10_0);(try clear hfz10_1);(try clear hfz10_2);(try clear hfz10_3);(try clear hfz4_0);(try clear hfz4_1);(try clear hfz4_2);(try clear hfz4_3);(try clear hfz8_0);(try clear hfz8_1);(try clear hfz8_2);(try clear hfz8_3);(try clear hfz9_0);(try clear hfz9_1);(try clear hfz9_2);(try clear hfz9_3);obtain ⟨kq,x33_1,rfl,HA,HJ1,BK233,HB⟩:=hcut;cases kq with
  | zero=>exact absurd HA.out (by simp [spec_RowOk.j0])
  | succ kj1 =>
   have H:=HA.out;clear HA;simp only [spec_RowOk.j0] at H
   by_cases c11 : x33_1 = true
   ·subst c11
    have H1 : (some 1) = some r:=by rw [if_pos rfl] at H;exact H
    clear H;have H:=H1;clear H1;obtain rfl:=Option.some.inj H;go_wp2;go_ret
    exact ⟨by first|rfl|(simp [errW_none,errW_some] <;> rfl)|(simp [*,errW_none,errW_some] <;> rfl),by repeat (first|(with_reducible first|exact HB.out|apply zA|apply zB|apply zC|refine zF ?_ GE233.out)|exact HB.out)⟩
   ·replace c11:=Bool.eq_false_iff.mpr c11;subst c11
    have H1 : (spec_RowOk.l0 kj1 (l0_0.length : Int) l0_0 (l0_0.length : Int) 0 l0_0 l0_1 l0_2 l0_3) = some r:=by rw [if_neg (show ¬ (false = true) by decide)] at H;exact H
    clear H;have H:=H1;clear H1;have H':=zm H;clear H;have hcz12_0 : wc.cell? ⟨gb233,0,none⟩ = some (.slice A0_0 l0_0.length c0_0):=(zD BK233.out 0).trans rfl;have hcz12_1 : wc.cell? ⟨gb233,1,none⟩ = some (.slice A0_1 l0_1.length c0_1):=(zD BK233.out 1).trans rfl;have hcz12_2 : wc.cell? ⟨gb233,2,none⟩ = some (.slice A0_2 l0_2.length c0_2):=(zD BK233.out 2).trans rfl;have hcz12_3 : wc.cell? ⟨gb233,3,none⟩ = some (.slice A0_3 l0_3.length c0_3):=(zD BK233.out 3).trans rfl;have hfz12_0:=zE BK233.out 0;have hfz12_1:=zE BK233.out 1;have hfz12_2:=zE BK233.out 2;have hfz12_3:=zE BK233.out 3;go_wp2;go_loopg [37] kj1 (fun kq v37 w'=>∃ (x37_2 : Int),v37 = .int .i64 x37_2∧Aside0 (spec_RowOk.l0 kq (l0_0.length : Int) l0_0 (l0_0.length : Int) x37_2 l0_0 l0_1 l0_2 l0_3 = some r)∧Aside0 (kq ≤ kj1)∧Aside0 (w'.heap[gb233]? = some (.cells #[(.slice A0_0 l0_0.length c0_0),(.slice A0_1 l0_1.length c0_1),(.slice A0_2 l0_2.length c0_2),(.slice A0_3 l0_3.length c0_3)] 27 (0,0)))∧Aside0 (Below w.heap.size w w'))
    case atStart=>exact ⟨(0),(by first|rfl|(simp;done)|(simp [*];done)),H',⟨Nat.le_refl _⟩,⟨by (with_reducible repeat (first|refine zH ?_ _|refine zI ?_|refine zG ?_ _));exact BK233.out⟩,⟨by repeat (first|(with_reducible first|exact HB.out|apply zA|apply zB|apply zC|refine zF ?_ GE233.out)|exact HB.out)⟩⟩
    case round =>
     clear H';(try clear c1);(try clear c2);(try clear p2);(try clear c5);(try clear c5b0);(try clear c5b1);(try clear c6);(try clear c6b0);(try clear c6b1);(try clear c6b2);(try clear c7);(try clear c7b0);(try clear c7b1);(try clear c7b2);(try clear c11);(try clear hcz10_0);(try clear hcz10_1);(try clear hcz10_2);(try clear hcz10_3);(try clear hcz12_0);(try clear hcz12_1);(try clear hcz12_2);(try clear hcz12_3);(try clear hcz4_0);(try clear hcz4_1);(try clear hcz4_2);(try clear hcz4_3);(try clear hcz8_0);(try clear hcz8_1);(try clear hcz8_2);(try clear hcz8_3);(try clear hcz9_0);(try clear hcz9_1);(try clear hcz9_2);(try clear hcz9_3);(try clear hfz10_0);(try clear hfz10_1);(try clear hfz10_2);(try clear hfz10_3);(try clear hfz12_0);(try clear hfz12_1);(try clear hfz12_2);(try clear hfz12_3);(try clear hfz4_0);(try clear hfz4_1);(try clear hfz4_2);(try clear hfz4_3);(try clear hfz8_0);(try clear hfz8_1);(try clear hfz8_2);(try clear hfz8_3);(try clear hfz9_0);(try clear hfz9_1);(try clear hfz9_2);(try clear hfz9_3);(try clear p2);obtain ⟨x37_2,rfl,HA,HK2,BK233,HB⟩:=hrel;cases gk with
     | zero=>exact absurd HA.out (by simp [spec_RowOk.l0])
     | succ k2 =>
      have H:=HA.out;clear HA;simp only [spec_RowOk.l0] at H
      by_cases c13 : x37_2 < (l0_0.length : Int)
      ·rw [if_pos c13] at H;have c13b0 : decide (x37_2 < (l0_0.length : Int)) = true:=decide_eq_true c13;clear c13;by_cases c14 : 0 ≤ x37_2
       ·rw [if_pos c14] at H;have c14b0 : decide (0 ≤ x37_2) = true:=decide_eq_true c14;clear c14;by_cases c15 : x37_2 < (l0_0.length : Int)
        ·rw [if_pos c15] at H;have c15b0 : decide (x37_2 < (l0_0.length : Int)) = true:=decide_eq_true c15;clear c15;replace H:=Option.bind_eq_some_iff.mp H;obtain ⟨t235,A160,H⟩:=H;replace H : (if t235 = true then (if x37_2 < (l0_1.length : Int) then ((spec_l1in.f (rd l0_1 x37_2) 0 1000000).bind fun t237=>(if t237 = true then (spec_RowOk.l0 k2 (l0_0.length : Int) l0_0 (l0_0.length : Int) (wrap64 (x37_2 + 1)) l0_0 l0_1 l0_2 l0_3) else (some 2))) else (none)) else (some 2)) = some r:=H
         have A16:=zm A160;clear A160;by_cases c17 : t235 = true
         ·subst c17
          have H1 : (if x37_2 < (l0_1.length : Int) then ((spec_l1in.f (rd l0_1 x37_2) 0 1000000).bind fun t237=>(if t237 = true then (spec_RowOk.l0 k2 (l0_0.length : Int) l0_0 (l0_0.length : Int) (wrap64 (x37_2 + 1)) l0_0 l0_1 l0_2 l0_3) else (some 2))) else (none)) = some r:=by rw [if_pos rfl] at H;exact H
          clear H;have H:=H1;clear H1;by_cases c18 : x37_2 < (l0_1.length : Int)
          ·rw [if_pos c18] at H;have c18b0 : decide (x37_2 < (l0_1.length : Int)) = true:=decide_eq_true c18;clear c18;replace H:=Option.bind_eq_some_iff.mp H;obtain ⟨t237,A190,H⟩:=H;replace H : (if t237 = true then (spec_RowOk.l0 k2 (l0_0.length : Int) l0_0 (l0_0.length : Int) (wrap64 (x37_2 + 1)) l0_0 l0_1 l0_2 l0_3) else (some 2)) = some r:=H;have A19:=zm A190;clear A190;by_cases c20 : t237 = true
           ·subst c20
            have H1 : (spec_RowOk.l0 k2 (l0_0.length : Int) l0_0 (l0_0.length : Int) (wrap64 (x37_2 + 1)) l0_0 l0_1 l0_2 l0_3) = some r:=by rw [if_pos rfl] at H;exact H
            clear H;have H:=H1;clear H1;have H':=zm H;clear H;have p234 : 0 ≤ (x37_2 : Int):=of_decide_eq_true (by first|(with_reducible assumption)|assumption)
            have q234 : x37_2 < (l0_0.length : Int):=of_decide_eq_true (by first|(with_reducible assumption)|assumption)
            obtain ⟨ad234,e234,hx234_0⟩:=Kd.at_int HR0_0.out x37_2 p234 q234;cases e234;replace hx234_0:=(HB.out.cell (World.block_lt_of_cell? w _ hx234_0)).trans hx234_0;replace p234:=eq_true p234;replace q234:=eq_true q234;go_wp2_with (first|((with_reducible refine gate_callee (f:=52) rfl ?_);refine goesL_ (some 45) rfl rfl Try.func52 (by kernel_rfl) rfl #[.int .i64 (rd l0_0 x37_2),.int .i64 (-1),.int .i64 (wrap64 ((l0_0.length : Int) - 1))] rfl (by (try simp only [List.map_toArray,List.map_cons,List.map_nil]);first|done|rfl|(simp only [List.length_drop,List.length_take];rfl)) ?_;(with_reducible refine (spec_l1in.calls (rd l0_0 x37_2) (-1) (wrap64 ((l0_0.length : Int) - 1)) true _ A16.out).mono ?_);rintro e w' ⟨rfl,⟨nd,rfl⟩⟩;refine ⟨_,rfl,?_⟩;have hcz21_0 : wr.cell? ⟨gb233,0,none⟩ = some (.slice (some ad234) l0_0.length c0_0):=(zD BK233.out 0).trans rfl;have hcz21_1 : wr.cell? ⟨gb233,1,none⟩ = some (.slice A0_1 l0_1.length c0_1):=(zD BK233.out 1).trans rfl;have hcz21_2 : wr.cell? ⟨gb233,2,none⟩ = some (.slice A0_2 l0_2.length c0_2):=(zD BK233.out 2).trans rfl;have hcz21_3 : wr.cell? ⟨gb233,3,none⟩ = some (.slice A0_3 l0_3.length c0_3):=(zD BK233.out 3).trans rfl;have hfz21_0:=zE BK233.out 0;have hfz21_1:=zE BK233.out 1;have hfz21_2:=zE BK233.out 2;have hfz21_3:=zE BK233.out 3;have p236 : 0 ≤ (x37_2 : Int):=of_decide_eq_true (by first|(with_reducible assumption)|assumption);have q236 : x37_2 < (l0_1.length : Int):=of_decide_eq_true (by first|(with_reducible assumption)|assumption);obtain ⟨ad236,e236,hx236_0⟩:=Kd.at_int HR0_1.out x37_2 p236 q236;cases e236;replace hx236_0:=(HB.out.cell (World.block_lt_of_cell? w _ hx236_0)).trans hx236_0;replace p236:=eq_true p236;replace q236:=eq_true q236)|(go_at_call 52;(with_reducible refine (spec_l1in.calls (rd l0_1 x37_2) 0 1000000 true _ A19.out).mono ?_);rintro e w' ⟨rfl,⟨nd,rfl⟩⟩))
            go_roundg k2
            case measure=>have:=HJ1.out;have:=HK2.out;omega
            case rel=>exact ⟨(wrap64 (x37_2 + 1)),(by first|rfl|(simp;done)|(simp [*];done)),H',⟨by have:=HJ1.out;have:=HK2.out;omega⟩,⟨by (with_reducible repeat (first|refine zH ?_ _|refine zI ?_|refine zG ?_ _));exact BK233.out⟩,⟨by repeat (first|(with_reducible first|exact HB.out|apply zA|apply zB|apply zC|refine zF ?_ GE233.out)|exact HB.out)⟩⟩
           ·replace c20:=Bool.eq_false_iff.mpr c20;subst c20
            have H1 : (some 2) = some r:=by rw [if_neg (show ¬ (false = true) by decide)] at H;exact H
            clear H;have H:=H1;clear H1;obtain rfl:=Option.some.inj H;have p234 : 0 ≤ (x37_2 : Int):=of_decide_eq_true (by first|(with_reducible assumption)|assumption)
            have q234 : x37_2 < (l0_0.length : Int):=of_decide_eq_true (by first|(with_reducible assumption)|assumption)
            obtain ⟨ad234,e234,hx234_0⟩:=Kd.at_int HR0_0.out x37_2 p234 q234;cases e234;replace hx234_0:=(HB.out.cell (World.block_lt_of_cell? w _ hx234_0)).trans hx234_0;replace p234:=eq_true p234;replace q234:=eq_true q234;go_wp2_with (first|((with_reducible refine gate_callee (f:=52) rfl ?_);refine goesL_ (some 45) rfl rfl Try.func52 (by kernel_rfl) rfl #[.int .i64 (rd l0_0 x37_2),.int .i64 (-1),.int .i64 (wrap64 ((l0_0.length : Int) - 1))] rfl (by (try simp only [List.map_toArray,List.map_cons,List.map_nil]);first|done|rfl|(simp only [List.length_drop,List.length_take];rfl)) ?_;(with_reducible refine (spec_l1in.calls (rd l0_0 x37_2) (-1) (wrap64 ((l0_0.length : Int) - 1)) true _ A16.out).mono ?_);rintro e w' ⟨rfl,⟨nd,rfl⟩⟩;refine ⟨_,rfl,?_⟩;have hcz22_0 : wr.cell? ⟨gb233,0,none⟩ = some (.slice (some ad234) l0_0.length c0_0):=(zD BK233.out 0).trans rfl;have hcz22_1 : wr.cell? ⟨gb233,1,none⟩ = some (.slice A0_1 l0_1.length c0_1):=(zD BK233.out 1).trans rfl;have hcz22_2 : wr.cell? ⟨gb233,2,none⟩ = some (.slice A0_2 l0_2.length c0_2):=(zD BK233.out 2).trans rfl;have hcz22_3 : wr.cell? ⟨gb233,3,none⟩ = some (.slice A0_3 l0_3.length c0_3):=(zD BK233.out 3).trans rfl;have hfz22_0:=zE BK233.out 0;have hfz22_1:=zE BK233.out 1;have hfz22_2:=zE BK233.out 2;have hfz22_3:=zE BK233.out 3;have p236 : 0 ≤ (x37_2 : Int):=of_decide_eq_true (by first|(with_reducible assumption)|assumption);have q236 : x37_2 < (l0_1.length : Int):=of_decide_eq_true (by first|(with_reducible assumption)|assumption);obtain ⟨ad236,e236,hx236_0⟩:=Kd.at_int HR0_1.out x37_2 p236 q236;cases e236;replace hx236_0:=(HB.out.cell (World.block_lt_of_cell? w _ hx236_0)).trans hx236_0;replace p236:=eq_true p236;replace q236:=eq_true q236)|(go_at_call 52;(with_reducible refine (spec_l1in.calls (rd l0_1 x37_2) 0 1000000 false _ A19.out).mono ?_);rintro e w' ⟨rfl,⟨nd,rfl⟩⟩))
            go_ret
            exact ⟨by first|rfl|(simp [errW_none,errW_some] <;> rfl)|(simp [*,errW_none,errW_some] <;> rfl),by repeat (first|(with_reducible first|exact HB.out|apply zA|apply zB|apply zC|refine zF ?_ GE233.out)|exact HB.out)⟩
          ·rw [if_neg c18] at H;exact absurd H (by simp)
         ·replace c17:=Bool.eq_false_iff.mpr c17;subst c17
          have H1 : (some 2) = some r:=by rw [if_neg (show ¬ (false = true) by decide)] at H;exact H
          clear H;have H:=H1;clear H1;obtain rfl:=Option.some.inj H;have p234 : 0 ≤ (x37_2 : Int):=of_decide_eq_true (by first|(with_reducible assumption)|assumption)
          have q234 : x37_2 < (l0_0.length : Int):=of_decide_eq_true (by first|(with_reducible assumption)|assumption)
          obtain ⟨ad234,e234,hx234_0⟩:=Kd.at_int HR0_0.out x37_2 p234 q234;cases e234;replace hx234_0:=(HB.out.cell (World.block_lt_of_cell? w _ hx234_0)).trans hx234_0;replace p234:=eq_true p234;replace q234:=eq_true q234;go_wp2_with (first|((with_reducible refine gate_callee (f:=52) rfl ?_);refine goesL_ (some 45) rfl rfl Try.func52 (by kernel_rfl) rfl #[.int .i64 (rd l0_0 x37_2),.int .i64 (-1),.int .i64 (wrap64 ((l0_0.length : Int) - 1))] rfl (by (try simp only [List.map_toArray,List.map_cons,List.map_nil]);first|done|rfl|(simp only [List.length_drop,List.length_take];rfl)) ?_;(with_reducible refine (spec_l1in.calls (rd l0_0 x37_2) (-1) (wrap64 ((l0_0.length : Int) - 1)) false _ A16.out).mono ?_);rintro e w' ⟨rfl,⟨nd,rfl⟩⟩;refine ⟨_,rfl,?_⟩))
          go_ret
          exact ⟨by first|rfl|(simp [errW_none,errW_some] <;> rfl)|(simp [*,errW_none,errW_some] <;> rfl),by repeat (first|(with_reducible first|exact HB.out|apply zA|apply zB|apply zC|refine zF ?_ GE233.out)|exact HB.out)⟩
        ·rw [if_neg c15] at H;exact absurd H (by simp)
       ·rw [if_neg c14] at H;exact absurd H (by simp)
      ·rw [if_neg c13] at H;have c13b0 : decide (x37_2 < (l0_0.length : Int)) = false:=decide_eq_false c13;clear c13;have H':=zm H;clear H;have hcz23_0 : wr.cell? ⟨gb233,0,none⟩ = some (.slice A0_0 l0_0.length c0_0):=(zD BK233.out 0).trans rfl;have hcz23_1 : wr.cell? ⟨gb233,1,none⟩ = some (.slice A0_1 l0_1.length c0_1):=(zD BK233.out 1).trans rfl;have hcz23_2 : wr.cell? ⟨gb233,2,none⟩ = some (.slice A0_2 l0_2.length c0_2):=(zD BK233.out 2).trans rfl;have hcz23_3 : wr.cell? ⟨gb233,3,none⟩ = some (.slice A0_3 l0_3.length c0_3):=(zD BK233.out 3).trans rfl;have hfz23_0:=zE BK233.out 0;have hfz23_1:=zE BK233.out 1;have hfz23_2:=zE BK233.out 2;have hfz23_3:=zE BK233.out 3;go_wp2;go_loopg [60] k2 (fun kq v60 w'=>∃ (x60_3 : Int),v60 = .int .i64 x60_3∧Aside0 (spec_RowOk.l1 kq l0_3 (l0_3.length : Int) x60_3 = some r)∧Aside0 (kq ≤ k2)∧Aside0 (w'.heap[gb233]? = some (.cells #[(.slice A0_0 l0_0.length c0_0),(.slice A0_1 l0_1.length c0_1),(.slice A0_2 l0_2.length c0_2),(.slice A0_3 l0_3.length c0_3)] 27 (0,0)))∧Aside0 (Below w.heap.size w w'))
       case atStart=>exact ⟨(0),(by first|rfl|(simp;done)|(simp [*];done)),H',⟨Nat.le_refl _⟩,⟨by (with_reducible repeat (first|refine zH ?_ _|refine zI ?_|refine zG ?_ _));exact BK233.out⟩,⟨by repeat (first|(with_reducible first|exact HB.out|apply zA|apply zB|apply zC|refine zF ?_ GE233.out)|exact HB.out)⟩⟩
       case round =>
        clear H';(try clear c1);(try clear c2);(try clear p2);(try clear q2);(try clear hx2);(try clear c5);(try clear c5b0);(try clear c5b1);(try clear c6);(try clear c6b0);(try clear c6b1);(try clear c6b2);(try clear p6);(try clear c7);(try clear c7b0);(try clear c7b1);(try clear c7b2);(try clear c11);(try clear c13);(try clear c13b0);(try clear c14);(try clear c14b0);(try clear c15);(try clear c15b0);(try clear c17);(try clear c18);(try clear c18b0);(try clear c20);(try clear c23);(try clear p23);(try clear q23);(try clear hx23);(try clear hcz10_0);(try clear hcz10_1);(try clear hcz10_2);(try clear hcz10_3);(try clear hcz12_0);(try clear hcz12_1);(try clear hcz12_2);(try clear hcz12_3);(try clear hcz21_0);(try clear hcz21_1);(try clear hcz21_2);(try clear hcz21_3);(try clear hcz22_0);(try clear hcz22_1);(try clear hcz22_2);(try clear hcz22_3);(try clear hcz23_0);(try clear hcz23_1);(try clear hcz23_2);(try clear hcz23_3);(try clear hcz4_0);(try clear hcz4_1);(try clear hcz4_2);(try clear hcz4_3);(try clear hcz8_0);(try clear hcz8_1);(try clear hcz8_2);(try clear hcz8_3);(try clear hcz9_0);(try clear hcz9_1);(try clear hcz9_2);(try clear hcz9_3);(try clear hfz10_0);(try clear hfz10_1);(try clear hfz10_2);(try clear hfz10_3);(try clear hfz12_0);(try clear hfz12_1);(try clear hfz12_2);(try clear hfz12_3);(try clear hfz21_0);(try clear hfz21_1);(try clear hfz21_2);(try clear hfz21_3);(try clear hfz22_0);(try clear hfz22_1);(try clear hfz22_2);(try clear hfz22_3);(try clear hfz23_0);(try clear hfz23_1);(try clear hfz23_2);(try clear hfz23_3);(try clear hfz4_0);(try clear hfz4_1);(try clear hfz4_2);(try clear hfz4_3);(try clear hfz8_0);(try clear hfz8_1);(try clear hfz8_2);(try clear hfz8_3);(try clear hfz9_0);(try clear hfz9_1);(try clear hfz9_2);(try clear hfz9_3);(try clear hx234_0);(try clear hx236_0);(try clear p2);(try clear p234);(try clear p236);(try clear q234);(try clear q236);obtain ⟨x60_3,rfl,HA,HK3,BK233,HB⟩:=hrel;cases gk with
        | zero=>exact absurd HA.out (by simp [spec_RowOk.l1])
        | succ k3 =>
         have H:=HA.out;clear HA;simp only [spec_RowOk.l1] at H
         by_cases c24 : x60_3 < (l0_3.length : Int)
         ·rw [if_pos c24] at H;have c24b0 : decide (x60_3 < (l0_3.length : Int)) = true:=decide_eq_true c24;clear c24;by_cases c25 : 0 ≤ x60_3
          ·rw [if_pos c25] at H;have c25b0 : decide (0 ≤ x60_3) = true:=decide_eq_true c25;clear c25;by_cases c26 : x60_3 < (l0_3.length : Int)
           ·rw [if_pos c26] at H;have c26b0 : decide (x60_3 < (l0_3.length : Int)) = true:=decide_eq_true c26;clear c26;by_cases c27 : ((rd_L3 l0_3 x60_3).length : Int) = 4
            ·rw [if_pos c27] at H;have c27b0 : (((rd_L3 l0_3 x60_3).length : Int) == 4) = true:=beq_iff_eq.mpr c27;have c27b1 : (((rd_L3 l0_3 x60_3).length : Int) != 4) = false:=bne_eq_false_iff_eq.mpr c27;clear c27;have H':=zm H;clear H;have p238 : 0 ≤ (x60_3 : Int):=of_decide_eq_true (by first|(with_reducible assumption)|assumption)
             have q238 : x60_3 < (l0_3.length : Int):=of_decide_eq_true (by first|(with_reducible assumption)|assumption)
             obtain ⟨ad238,A238_0,c238_0,e238,hx238_0,hl238_0,hi238_0⟩:=at_L3 HR0_3.out x60_3 p238 q238;cases e238;replace hx238_0:=(HB.out.cell (World.block_lt_of_cell? w _ hx238_0)).trans hx238_0;have HR238_0:=zm hi238_0;have HC238_0:=zm hl238_0;clear hi238_0 hl238_0;replace p238:=eq_true p238;replace q238:=eq_true q238;go_wp2;go_roundg k3
             case measure=>have:=HJ1.out;have:=HK2.out;have:=HK3.out;omega
             case rel=>exact ⟨(wrap64 (x60_3 + 1)),(by first|rfl|(simp;done)|(simp [*];done)),H',⟨by have:=HJ1.out;have:=HK2.out;have:=HK3.out;omega⟩,⟨by (with_reducible repeat (first|refine zH ?_ _|refine zI ?_|refine zG ?_ _));exact BK233.out⟩,⟨by repeat (first|(with_reducible first|exact HB.out|apply zA|apply zB|apply zC|refine zF ?_ GE233.out)|exact HB.out)⟩⟩
            ·rw [if_neg c27] at H;have c27b0 : (((rd_L3 l0_3 x60_3).length : Int) == 4) = false:=beq_eq_false_iff_ne.mpr c27;have c27b1 : (((rd_L3 l0_3 x60_3).length : Int) != 4) = true:=bne_iff_ne.mpr c27;obtain rfl:=Option.some.inj H;have p238 : 0 ≤ (x60_3 : Int):=of_decide_eq_true (by first|(with_reducible assumption)|assumption)
             have q238 : x60_3 < (l0_3.length : Int):=of_decide_eq_true (by first|(with_reducible assumption)|assumption)
             obtain ⟨ad238,A238_0,c238_0,e238,hx238_0,hl238_0,hi238_0⟩:=at_L3 HR0_3.out x60_3 p238 q238;cases e238;replace hx238_0:=(HB.out.cell (World.block_lt_of_cell? w _ hx238_0)).trans hx238_0;have HR238_0:=zm hi238_0;have HC238_0:=zm hl238_0;clear hi238_0 hl238_0;replace p238:=eq_true p238;replace q238:=eq_true q238;go_wp2;go_ret
             exact ⟨by first|rfl|(simp [errW_none,errW_some] <;> rfl)|(simp [*,errW_none,errW_some] <;> rfl),by repeat (first|(with_reducible first|exact HB.out|apply zA|apply zB|apply zC|refine zF ?_ GE233.out)|exact HB.out)⟩
           ·rw [if_neg c26] at H;exact absurd H (by simp)
          ·rw [if_neg c25] at H;exact absurd H (by simp)
         ·rw [if_neg c24] at H;have c24b0 : decide (x60_3 < (l0_3.length : Int)) = false:=decide_eq_false c24;clear c24;obtain rfl:=Option.some.inj H;go_wp2;go_ret
          exact ⟨by first|rfl|(simp [errW_none,errW_some] <;> rfl)|(simp [*,errW_none,errW_some] <;> rfl),by repeat (first|(with_reducible first|exact HB.out|apply zA|apply zB|apply zC|refine zF ?_ GE233.out)|exact HB.out)⟩

/-! ### impl_there: function 58 -/
def impl_there.f (k : Nat) (l0_0 : List Int) (l0_1 : List Int) (l0_2 : List Bool) (l0_3 : List (List Bool)) (a1 : Int) : Option (Bool):=(impl_RowOk.f k l0_0 l0_1 l0_2 l0_3).bind fun t287=>(if t287 = 0 then (if a1 ≥ 0 then (some (decide (a1 < (l0_0.length : Int)))) else (some false)) else (some false))
theorem impl_there.mono : ∀ a0 a1 a2 a3 a4 k,LeO (impl_there.f k a0 a1 a2 a3 a4) (impl_there.f (k + 1) a0 a1 a2 a3 a4):=by
 intro a0 a1 a2 a3 a4 k
 unfold impl_there.f
 repeat' first
   | (with_reducible exact impl_RowOk.mono _ _ _ _ _)
   | (with_reducible exact LeO.refl _)
   | (with_reducible exact LeO.none _)
   | (with_reducible refine LeO.ite ?_ ?_)
   | (with_reducible refine LeO.bind ?_ (fun _=>?_))
   | exact impl_RowOk.mono _ _ _ _ _
   | exact LeO.none _
   | refine LeO.ite ?_ ?_
   | refine LeO.bind ?_ (fun _=>?_)
set_option maxHeartbeats 8000000 in
set_option maxRecDepth 100000 in
theorem impl_there.calls (k : Nat) (A0_0 : Option Addr) (c0_0 : Nat) (l0_0 : List Int) (A0_1 : Option Addr) (c0_1 : Nat) (l0_1 : List Int) (A0_2 : Option Addr) (c0_2 : Nat) (l0_2 : List Bool) (A0_3 : Option Addr) (c0_3 : Nat) (l0_3 : List (List Bool)) (a1 : Int) (r : Bool) (w : World) (hr0_0 : Kd.C (Kd.int .i64) w A0_0 l0_0.length l0_0) (hc0_0 : l0_0.length ≤ c0_0) (hr0_1 : Kd.C (Kd.int .i64) w A0_1 l0_1.length l0_1) (hc0_1 : l0_1.length ≤ c0_1) (hr0_2 : Kd.C Kd.bool w A0_2 l0_2.length l0_2) (hc0_2 : l0_2.length ≤ c0_2) (hr0_3 : Kd.C (Kd.slice 4 Kd.bool) w A0_3 l0_3.length l0_3) (hc0_3 : l0_3.length ≤ c0_3) (h : impl_there.f k l0_0 l0_1 l0_2 l0_3 a1 = some r) :
  Calls Try.prog 58 #[.agg #[.slice A0_0 l0_0.length c0_0,.slice A0_1 l0_1.length c0_1,.slice A0_2 l0_2.length c0_2,.slice A0_3 l0_3.length c0_3],.int .i64 a1] w fun e w'=>e = .returned (.bool r)∧Below w.heap.size w w':=by
 have hu27:=Try.underlying27;have HR0_0:=zm hr0_0;have HC0_0:=zm hc0_0;clear hr0_0 hc0_0;have HR0_1:=zm hr0_1;have HC0_1:=zm hc0_1;clear hr0_1 hc0_1;have HR0_2:=zm hr0_2;have HC0_2:=zm hc0_2;clear hr0_2 hc0_2;have HR0_3:=zm hr0_3;have HC0_3:=zm hc0_3;clear hr0_3 hc0_3;have HB:=zm (Below.refl w.heap.size w);have H : ((impl_RowOk.f k l0_0 l0_1 l0_2 l0_3).bind fun t287=>(if t287 = 0 then (if a1 ≥ 0 then (some (decide (a1 < (l0_0.length : Int)))) else (some false)) else (some false))) = some r:=h
 clear h;replace H:=Option.bind_eq_some_iff.mp H;obtain ⟨t287,A30,H⟩:=H;replace H : (if t287 = 0 then (if a1 ≥ 0 then (some (decide (a1 < (l0_0.length : Int)))) else (some false)) else (some false)) = some r:=H;have A3:=zm A30;clear A30;by_cases c4 : t287 = 0
 ·rw [if_pos c4] at H;have c4b0 : (t287 == 0) = true:=beq_iff_eq.mpr c4;have c4b1 : (t287 != 0) = false:=bne_eq_false_iff_eq.mpr c4;clear c4;by_cases c5 : a1 ≥ 0
  ·rw [if_pos c5] at H;have c5b0 : decide (0 ≤ a1) = true:=decide_eq_true c5;clear c5;obtain rfl:=Option.some.inj H;go_enter Try.func58,Try.ntmps58
   go_wp2_with (first|((with_reducible refine zM (N:=2) rfl ?_);(try (refine gate_guard (by rfl) ?_;dsimp only));refine zN ?hg (N:=2) ?hd (cs:=#[.slice A0_0 l0_0.length c0_0,.slice A0_1 l0_1.length c0_1,.slice A0_2 l0_2.length c0_2,.slice A0_3 l0_3.length c0_3]) (t:=27) ?hr ?_;(case hd=>rfl);(case hg=>rfl);(case hr=>first|(go_simp;done)|(go_simp;rfl));intro gb286 hg w6 hbox hb;have n0_:=zm (zK (by repeat (first|(with_reducible first|exact HB.out|apply zA|apply zB|apply zC)|exact HB.out)) hb);have n1_:=zm (hbox);have n2_:=zm ((by rw [hg];exact (zJ (by repeat (first|(with_reducible first|exact HB.out|apply zA|apply zB|apply zC)|exact HB.out))) : w.heap.size ≤ gb286));have n3_:=zm ((by rw [hg];exact (zJ (by repeat (first|(with_reducible first|exact HB.out|apply zA|apply zB|apply zC)|exact HB.out))) : w.heap.size ≤ gb286));clear HB;have HB:=n0_;have BK286:=n1_;have GW286:=n2_;have GE286:=n3_;clear n0_ n1_ n2_ n3_;clear hb hbox hg;have hcz7_0 : w6.cell? ⟨gb286,0,none⟩ = some (.slice A0_0 l0_0.length c0_0):=(zD BK286.out 0).trans rfl;have hcz7_1 : w6.cell? ⟨gb286,1,none⟩ = some (.slice A0_1 l0_1.length c0_1):=(zD BK286.out 1).trans rfl;have hcz7_2 : w6.cell? ⟨gb286,2,none⟩ = some (.slice A0_2 l0_2.length c0_2):=(zD BK286.out 2).trans rfl;have hcz7_3 : w6.cell? ⟨gb286,3,none⟩ = some (.slice A0_3 l0_3.length c0_3):=(zD BK286.out 3).trans rfl;have hfz7_0:=zE BK286.out 0;have hfz7_1:=zE BK286.out 1;have hfz7_2:=zE BK286.out 2;have hfz7_3:=zE BK286.out 3)|((with_reducible refine gate_callee (f:=25) rfl ?_);refine goesL_ (some 6) rfl rfl Try.func25 (by kernel_rfl) rfl #[.agg #[.slice A0_0 l0_0.length c0_0,.slice A0_1 l0_1.length c0_1,.slice A0_2 l0_2.length c0_2,.slice A0_3 l0_3.length c0_3]] rfl (by (try simp only [List.map_toArray,List.map_cons,List.map_nil]);first|done|rfl|(simp only [List.length_drop,List.length_take];rfl)) ?_;(with_reducible refine (impl_RowOk.calls k _ _ l0_0 _ _ l0_1 _ _ l0_2 _ _ l0_3 t287 _ ?side1 ?side2 ?side3 ?side4 ?side5 ?side6 ?side7 ?side8 A3.out).mono ?_);(case side1=>repeat (first|exact (zY HR0_0.out HB.out)|(with_reducible refine zT ?_ _)|(with_reducible refine zU ?_ _)|(with_reducible refine zV ?_)));(case side2=>exact HC0_0.out);(case side3=>repeat (first|exact (zY HR0_1.out HB.out)|(with_reducible refine zT ?_ _)|(with_reducible refine zU ?_ _)|(with_reducible refine zV ?_)));(case side4=>exact HC0_1.out);(case side5=>repeat (first|exact (zY HR0_2.out HB.out)|(with_reducible refine zT ?_ _)|(with_reducible refine zU ?_ _)|(with_reducible refine zV ?_)));(case side6=>exact HC0_2.out);(case side7=>repeat (first|exact (zY HR0_3.out HB.out)|(with_reducible refine zT ?_ _)|(with_reducible refine zU ?_ _)|(with_reducible refine zV ?_)));(case side8=>exact HC0_3.out);rintro e w8 ⟨rfl,hb⟩;refine ⟨_,rfl,?_⟩;have n0_:=zm (zL (g:=gb286) (o:=.cells #[.slice A0_0 l0_0.length c0_0,.slice A0_1 l0_1.length c0_1,.slice A0_2 l0_2.length c0_2,.slice A0_3 l0_3.length c0_3] 27 (0,0)) (by (with_reducible repeat (first|refine zH ?_ _|refine zI ?_|refine zG ?_ _));exact BK286.out) hb);have n1_:=zm (zK (by repeat (first|(with_reducible first|exact HB.out|apply zA|apply zB|apply zC|refine zF ?_ GE286.out)|exact HB.out)) hb);clear BK286;clear HB;have BK286:=n0_;have HB:=n1_;clear n0_ n1_;(try clear hb);(try clear hb2);(try clear hk);(try clear hi);have hcz9_0 : w8.cell? ⟨gb286,0,none⟩ = some (.slice A0_0 l0_0.length c0_0):=(zD BK286.out 0).trans rfl;have hcz9_1 : w8.cell? ⟨gb286,1,none⟩ = some (.slice A0_1 l0_1.length c0_1):=(zD BK286.out 1).trans rfl;have hcz9_2 : w8.cell? ⟨gb286,2,none⟩ = some (.slice A0_2 l0_2.length c0_2):=(zD BK286.out 2).trans rfl;have hcz9_3 : w8.cell? ⟨gb286,3,none⟩ = some (.slice A0_3 l0_3.length c0_3):=(zD BK286.out 3).trans rfl;have hfz9_0:=zE BK286.out 0;have hfz9_1:=zE BK286.out 1;have hfz9_2:=zE BK286.out 2;have hfz9_3:=zE BK286.out 3))
   go_ret
   exact ⟨by first|rfl|(simp [errW_none,errW_some] <;> rfl)|(simp [*,errW_none,errW_some] <;> rfl),by repeat (first|(with_reducible first|exact HB.out|apply zA|apply zB|apply zC|refine zF ?_ GE286.out)|exact HB.out)⟩
  ·rw [if_neg c5] at H;have c5b0 : decide (0 ≤ a1) = false:=decide_eq_false c5;clear c5;obtain rfl:=Option.some.inj H;go_enter Try.func58,Try.ntmps58
   go_wp2_with (first|((with_reducible refine zM (N:=2) rfl ?_);(try (refine gate_guard (by rfl) ?_;dsimp only));refine zN ?hg (N:=2) ?hd (cs:=#[.slice A0_0 l0_0.length c0_0,.slice A0_1 l0_1.length c0_1,.slice A0_2 l0_2.length c0_2,.slice A0_3 l0_3.length c0_3]) (t:=27) ?hr ?_;(case hd=>rfl);(case hg=>rfl);(case hr=>first|(go_simp;done)|(go_simp;rfl));intro gb286 hg w10 hbox hb;have n0_:=zm (zK (by repeat (first|(with_reducible first|exact HB.out|apply zA|apply zB|apply zC)|exact HB.out)) hb);have n1_:=zm (hbox);have n2_:=zm ((by rw [hg];exact (zJ (by repeat (first|(with_reducible first|exact HB.out|apply zA|apply zB|apply zC)|exact HB.out))) : w.heap.size ≤ gb286));have n3_:=zm ((by rw [hg];exact (zJ (by repeat (first|(with_reducible first|exact HB.out|apply zA|apply zB|apply zC)|exact HB.out))) : w.heap.size ≤ gb286));clear HB;have HB:=n0_;have BK286:=n1_;have GW286:=n2_;have GE286:=n3_;clear n0_ n1_ n2_ n3_;clear hb hbox hg;have hcz11_0 : w10.cell? ⟨gb286,0,none⟩ = some (.slice A0_0 l0_0.length c0_0):=(zD BK286.out 0).trans rfl;have hcz11_1 : w10.cell? ⟨gb286,1,none⟩ = some (.slice A0_1 l0_1.length c0_1):=(zD BK286.out 1).trans rfl;have hcz11_2 : w10.cell? ⟨gb286,2,none⟩ = some (.slice A0_2 l0_2.length c0_2):=(zD BK286.out 2).trans rfl;have hcz11_3 : w10.cell? ⟨gb286,3,none⟩ = some (.slice A0_3 l0_3.length c0_3):=(zD BK286.out 3).trans rfl;have hfz11_0:=zE BK286.out 0;have hfz11_1:=zE BK286.out 1;have hfz11_2:=zE BK286.out 2;have hfz11_3:=zE BK286.out 3)|((with_reducible refine gate_callee (f:=25) rfl ?_);refine goesL_ (some 6) rfl rfl Try.func25 (by kernel_rfl) rfl #[.agg #[.slice A0_0 l0_0.length c0_0,.slice A0_1 l0_1.length c0_1,.slice A0_2 l0_2.length c0_2,.slice A0_3 l0_3.length c0_3]] rfl (by (try simp only [List.map_toArray,List.map_cons,List.map_nil]);first|done|rfl|(simp only [List.length_drop,List.length_take];rfl)) ?_;(with_reducible refine (impl_RowOk.calls k _ _ l0_0 _ _ l0_1 _ _ l0_2 _ _ l0_3 t287 _ ?side1 ?side2 ?side3 ?side4 ?side5 ?side6 ?side7 ?side8 A3.out).mono ?_);(case side1=>repeat (first|exact (zY HR0_0.out HB.out)|(with_reducible refine zT ?_ _)|(with_reducible refine zU ?_ _)|(with_reducible refine zV ?_)));(case side2=>exact HC0_0.out);(case side3=>repeat (first|exact (zY HR0_1.out HB.out)|(with_reducible refine zT ?_ _)|(with_reducible refine zU ?_ _)|(with_reducible refine zV ?_)));(case side4=>exact HC0_1.out);(case side5=>repeat (first|exact (zY HR0_2.out HB.out)|(with_reducible refine zT ?_ _)|(with_reducible refine zU ?_ _)|(with_reducible refine zV ?_)));(case side6=>exact HC0_2.out);(case side7=>repeat (first|exact (zY HR0_3.out HB.out)|(with_reducible refine zT ?_ _)|(with_reducible refine zU ?_ _)|(with_reducible refine zV ?_)));(case side8=>exact HC0_3.out);rintro e w12 ⟨rfl,hb⟩;refine ⟨_,rfl,?_⟩;have n0_:=zm (zL (g:=gb286) (o:=.cells #[.slice A0_0 l0_0.length c0_0,.slice A0_1 l0_1.length c0_1,.slice A0_2 l0_2.length c0_2,.slice A0_3 l0_3.length c0_3] 27 (0,0)) (by (with_reducible repeat (first|refine zH ?_ _|refine zI ?_|refine zG ?_ _));exact BK286.out) hb);have n1_:=zm (zK (by repeat (first|(with_reducible first|exact HB.out|apply zA|apply zB|apply zC|refine zF ?_ GE286.out)|exact HB.out)) hb);clear BK286;clear HB;have BK286:=n0_;have HB:=n1_;clear n0_ n1_;(try clear hb);(try clear hb2);(try clear hk);(try clear hi)))
   go_ret
   exact ⟨by first|rfl|(simp [errW_none,errW_some] <;> rfl)|(simp [*,errW_none,errW_some] <;> rfl),by repeat (first|(with_reducible first|exact HB.out|apply zA|apply zB|apply zC|refine zF ?_ GE286.out)|exact HB.out)⟩
 ·rw [if_neg c4] at H;have c4b0 : (t287 == 0) = false:=beq_eq_false_iff_ne.mpr c4;have c4b1 : (t287 != 0) = true:=bne_iff_ne.mpr c4;obtain rfl:=Option.some.inj H;go_enter Try.func58,Try.ntmps58
  go_wp2_with (first|((with_reducible refine zM (N:=2) rfl ?_);(try (refine gate_guard (by rfl) ?_;dsimp only));refine zN ?hg (N:=2) ?hd (cs:=#[.slice A0_0 l0_0.length c0_0,.slice A0_1 l0_1.length c0_1,.slice A0_2 l0_2.length c0_2,.slice A0_3 l0_3.length c0_3]) (t:=27) ?hr ?_;(case hd=>rfl);(case hg=>rfl);(case hr=>first|(go_simp;done)|(go_simp;rfl));intro gb286 hg w13 hbox hb;have n0_:=zm (zK (by repeat (first|(with_reducible first|exact HB.out|apply zA|apply zB|apply zC)|exact HB.out)) hb);have n1_:=zm (hbox);have n2_:=zm ((by rw [hg];exact (zJ (by repeat (first|(with_reducible first|exact HB.out|apply zA|apply zB|apply zC)|exact HB.out))) : w.heap.size ≤ gb286));have n3_:=zm ((by rw [hg];exact (zJ (by repeat (first|(with_reducible first|exact HB.out|apply zA|apply zB|apply zC)|exact HB.out))) : w.heap.size ≤ gb286));clear HB;have HB:=n0_;have BK286:=n1_;have GW286:=n2_;have GE286:=n3_;clear n0_ n1_ n2_ n3_;clear hb hbox hg;have hcz14_0 : w13.cell? ⟨gb286,0,none⟩ = some (.slice A0_0 l0_0.length c0_0):=(zD BK286.out 0).trans rfl;have hcz14_1 : w13.cell? ⟨gb286,1,none⟩ = some (.slice A0_1 l0_1.length c0_1):=(zD BK286.out 1).trans rfl;have hcz14_2 : w13.cell? ⟨gb286,2,none⟩ = some (.slice A0_2 l0_2.length c0_2):=(zD BK286.out 2).trans rfl;have hcz14_3 : w13.cell? ⟨gb286,3,none⟩ = some (.slice A0_3 l0_3.length c0_3):=(zD BK286.out 3).trans rfl;have hfz14_0:=zE BK286.out 0;have hfz14_1:=zE BK286.out 1;have hfz14_2:=zE BK286.out 2;have hfz14_3:=zE BK286.out 3)|((with_reducible refine gate_callee (f:=25) rfl ?_);refine goesL_ (some 6) rfl rfl Try.func25 (by kernel_rfl) rfl #[.agg #[.slice A0_0 l0_0.length c0_0,.slice A0_1 l0_1.length c0_1,.slice A0_2 l0_2.length c0_2,.slice A0_3 l0_3.length c0_3]] rfl (by (try simp only [List.map_toArray,List.map_cons,List.map_nil]);first|done|rfl|(simp only [List.length_drop,List.length_take];rfl)) ?_;(with_reducible refine (impl_RowOk.calls k _ _ l0_0 _ _ l0_1 _ _ l0_2 _ _ l0_3 t287 _ ?side1 ?side2 ?side3 ?side4 ?side5 ?side6 ?side7 ?side8 A3.out).mono ?_);(case side1=>repeat (first|exact (zY HR0_0.out HB.out)|(with_reducible refine zT ?_ _)|(with_reducible refine zU ?_ _)|(with_reducible refine zV ?_)));(case side2=>exact HC0_0.out);(case side3=>repeat (first|exact (zY HR0_1.out HB.out)|(with_reducible refine zT ?_ _)|(with_reducible refine zU ?_ _)|(with_reducible refine zV ?_)));(case side4=>exact HC0_1.out);(case side5=>repeat (first|exact (zY HR0_2.out HB.out)|(with_reducible refine zT ?_ _)|(with_reducible refine zU ?_ _)|(with_reducible refine zV ?_)));(case side6=>exact HC0_2.out);(case side7=>repeat (first|exact (zY HR0_3.out HB.out)|(with_reducible refine zT ?_ _)|(with_reducible refine zU ?_ _)|(with_reducible refine zV ?_)));(case side8=>exact HC0_3.out);rintro e w15 ⟨rfl,hb⟩;refine ⟨_,rfl,?_⟩;have n0_:=zm (zL (g:=gb286) (o:=.cells #[.slice A0_0 l0_0.length c0_0,.slice A0_1 l0_1.length c0_1,.slice A0_2 l0_2.length c0_2,.slice A0_3 l0_3.length c0_3] 27 (0,0)) (by (with_reducible repeat (first|refine zH ?_ _|refine zI ?_|refine zG ?_ _));exact BK286.out) hb);have n1_:=zm (zK (by repeat (first|(with_reducible first|exact HB.out|apply zA|apply zB|apply zC|refine zF ?_ GE286.out)|exact HB.out)) hb);clear BK286;clear HB;have BK286:=n0_;have HB:=n1_;clear n0_ n1_;(try clear hb);(try clear hb2);(try clear hk);(try clear hi)))
  go_ret
  exact ⟨by first|rfl|(simp [errW_none,errW_some] <;> rfl)|(simp [*,errW_none,errW_some] <;> rfl),by repeat (first|(with_reducible first|exact HB.out|apply zA|apply zB|apply zC|refine zF ?_ GE286.out)|exact HB.out)⟩

end Go.Proofs.Ytpdcghclcgbcfaa.T
