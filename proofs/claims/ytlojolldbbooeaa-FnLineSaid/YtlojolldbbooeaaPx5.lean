-- written by a program of this session (after the kit's print), not trusted: Lean checks it
import Derived.Test.YtlojolldbbooeaaPx0
import Derived.Test.YtlojolldbbooeaaPx3
import Derived.Test.YtlojolldbbooeaaPx4
namespace Go.Proofs.Ytlojolldbbooeaa.P
open Go.RowKit Go.Proofs.YtlojolldbbooeaaW.PrintWords Go.Proofs.YtlojolldbbooeaaW.PrintLast Go.Proofs.YtlojolldbbooeaaW.PrintMore
open Go.Proofs.YtlojolldbbooeaaW.PrintWords renaming below_alloc → zA, below_drew1 → zC, below_set → zF, below_size → zJ, below_step → zK, blk_alloc → zG, blk_below → zL, blk_cell → zD, blk_drew → zI, blk_drewN → zH, blk_frozen → zE, box_event → zN, gate_dst → zM, pw_below_drewN → zB
open Go.Proofs.YtlojolldbbooeaaW.PrintWords.Kd renaming C_alloc → zT, C_below → zY, C_drew → zV, C_drewN → zU, R_alloc → zP, R_base → zCb, R_drew → zR, R_drewN → zQ, R_elder' → zGb, R_lower → zZ, R_mono → zS, R_reads' → zW, R_slice → zAb
open Go.Proofs.YtlojolldbbooeaaW.PrintWords.Aside0 renaming mk → zm
open Bool renaming true → y', false → n'
attribute [local go_sem] max2_int min2_int max_two min_two max_three min_three max_four min_four   -- for this text's walks alone
set_option linter.unusedVariables false
set_option linter.unusedSimpArgs false

/-! ### impl_work: function 16 -/
mutual
def impl_work.l0 : Nat→List Int→List Int→Int→Int→Int→List Int→List Int→List Bool→List (List Bool)→Option (List Int × List Int)
 | 0,_,_,_,_,_,_,_,_,_=>none
 | k + 1,x2,x3,x4,x18,x19,x133000,x133001,x133002,x133003=>if x19 < x18 then (if 0 ≤ x19 then (if x19 < (x133003.length : Int) then ((impl_can.f k (rd_L3 x133003 x19) 0).bind fun t140=>(if x19 < (x3.length : Int) then (impl_work.l0 k x2 (x3.set (x19 : Int).toNat t140) x4 x18 (wrap64 (x19 + 1)) x133000 x133001 x133002 x133003) else (none))) else (none)) else (none)) else (impl_work.l1 k x2 x3 x4 true x133000 x133001 x133002 x133003)
def impl_work.l1 : Nat→List Int→List Int→Int→Bool→List Int→List Int→List Bool→List (List Bool)→Option (List Int × List Int)
 | 0,_,_,_,_,_,_,_,_=>none
 | k + 1,x2,x3,x4,x6,x133000,x133001,x133002,x133003=>if x6 = true then ((slices_Clone_int_int.f x3).bind fun t142=>(impl_work.l2 k x2 x3 x4 false t142 x4 0 x133000 x133001 x133002 x133003)) else (some (x2,x3))
def impl_work.l2 : Nat→List Int→List Int→Int→Bool→List Int→Int→Int→List Int→List Int→List Bool→List (List Bool)→Option (List Int × List Int)
 | 0,_,_,_,_,_,_,_,_,_,_,_=>none
 | k + 1,x2,x3,x4,x6,x7,x35,x36,x133000,x133001,x133002,x133003=>if x36 < x35 then (if 0 ≤ x36 then (if x36 < (x133002.length : Int) then (if rdOf false x133002 x36 = true then (if x36 < (x133000.length : Int) then (if (rd x133000 x36) = (-1) then (if x36 < (x133003.length : Int) then ((impl_can.f k (rd_L3 x133003 x36) 1).bind fun t148=>(if x6 = true then (if x36 < (x2.length : Int) then (if x36 < (x7.length : Int) then (impl_work.l2 k (x2.set (x36 : Int).toNat 1) x3 x4 true (x7.set (x36 : Int).toNat t148) x35 (wrap64 (x36 + 1)) x133000 x133001 x133002 x133003) else (none)) else (none)) else (if x36 < (x2.length : Int) then (if 1 = (rd x2 x36) then (if x36 < (x3.length : Int) then (if x36 < (x7.length : Int) then (impl_work.l2 k (x2.set (x36 : Int).toNat 1) x3 x4 (t148 != (rd x3 x36)) (x7.set (x36 : Int).toNat t148) x35 (wrap64 (x36 + 1)) x133000 x133001 x133002 x133003) else (none)) else (none)) else (if x36 < (x7.length : Int) then (impl_work.l2 k (x2.set (x36 : Int).toNat 1) x3 x4 true (x7.set (x36 : Int).toNat t148) x35 (wrap64 (x36 + 1)) x133000 x133001 x133002 x133003) else (none))) else (none)))) else (none)) else (if 0 ≤ (rd x133000 x36) then (if (rd x133000 x36) < (x3.length : Int) then (if x36 < (x133003.length : Int) then ((impl_can.f k (rd_L3 x133003 x36) (mn (wrap64 ((rd x3 (rd x133000 x36)) + 1)) 3)).bind fun t160=>(if x6 = true then (if x36 < (x2.length : Int) then (if x36 < (x7.length : Int) then (impl_work.l2 k (x2.set (x36 : Int).toNat (mn (wrap64 ((rd x3 (rd x133000 x36)) + 1)) 3)) x3 x4 true (x7.set (x36 : Int).toNat t160) x35 (wrap64 (x36 + 1)) x133000 x133001 x133002 x133003) else (none)) else (none)) else (if x36 < (x2.length : Int) then (if (mn (wrap64 ((rd x3 (rd x133000 x36)) + 1)) 3) = (rd x2 x36) then (if x36 < (x3.length : Int) then (if x36 < (x7.length : Int) then (impl_work.l2 k (x2.set (x36 : Int).toNat (mn (wrap64 ((rd x3 (rd x133000 x36)) + 1)) 3)) x3 x4 (t160 != (rd x3 x36)) (x7.set (x36 : Int).toNat t160) x35 (wrap64 (x36 + 1)) x133000 x133001 x133002 x133003) else (none)) else (none)) else (if x36 < (x7.length : Int) then (impl_work.l2 k (x2.set (x36 : Int).toNat (mn (wrap64 ((rd x3 (rd x133000 x36)) + 1)) 3)) x3 x4 true (x7.set (x36 : Int).toNat t160) x35 (wrap64 (x36 + 1)) x133000 x133001 x133002 x133003) else (none))) else (none)))) else (none)) else (none)) else (none))) else (none)) else (if x36 < (x133003.length : Int) then ((impl_can.f k (rd_L3 x133003 x36) 0).bind fun t170=>(if x6 = true then (if x36 < (x2.length : Int) then (if x36 < (x7.length : Int) then (impl_work.l2 k (x2.set (x36 : Int).toNat 0) x3 x4 true (x7.set (x36 : Int).toNat t170) x35 (wrap64 (x36 + 1)) x133000 x133001 x133002 x133003) else (none)) else (none)) else (if x36 < (x2.length : Int) then (if 0 = (rd x2 x36) then (if x36 < (x3.length : Int) then (if x36 < (x7.length : Int) then (impl_work.l2 k (x2.set (x36 : Int).toNat 0) x3 x4 (t170 != (rd x3 x36)) (x7.set (x36 : Int).toNat t170) x35 (wrap64 (x36 + 1)) x133000 x133001 x133002 x133003) else (none)) else (none)) else (if x36 < (x7.length : Int) then (impl_work.l2 k (x2.set (x36 : Int).toNat 0) x3 x4 true (x7.set (x36 : Int).toNat t170) x35 (wrap64 (x36 + 1)) x133000 x133001 x133002 x133003) else (none))) else (none)))) else (none))) else (none)) else (none)) else (impl_work.l1 k x2 x7 x4 x6 x133000 x133001 x133002 x133003)
end
def impl_work.f (k : Nat) (l0_0 : List Int) (l0_1 : List Int) (l0_2 : List Bool) (l0_3 : List (List Bool)) : Option (List Int × List Int):=if 0 ≤ (l0_0.length : Int) then (if ((l0_0.length : Int) : Int).toNat ≤ 35184372088832 then (impl_work.l0 k (List.replicate ((l0_0.length : Int) : Int).toNat 0) (List.replicate ((l0_0.length : Int) : Int).toNat 0) (l0_0.length : Int) (l0_0.length : Int) 0 l0_0 l0_1 l0_2 l0_3) else (none)) else (none)
theorem impl_work.mono_l : ∀ k,(∀ y0 y1 y2 y3 y4 y5 y6 y7 y8,LeO (impl_work.l0 k y0 y1 y2 y3 y4 y5 y6 y7 y8) (impl_work.l0 (k + 1) y0 y1 y2 y3 y4 y5 y6 y7 y8))∧(∀ y0 y1 y2 y3 y4 y5 y6 y7,LeO (impl_work.l1 k y0 y1 y2 y3 y4 y5 y6 y7) (impl_work.l1 (k + 1) y0 y1 y2 y3 y4 y5 y6 y7))∧(∀ y0 y1 y2 y3 y4 y5 y6 y7 y8 y9 y10,LeO (impl_work.l2 k y0 y1 y2 y3 y4 y5 y6 y7 y8 y9 y10) (impl_work.l2 (k + 1) y0 y1 y2 y3 y4 y5 y6 y7 y8 y9 y10))
 | 0=>⟨fun _ _ _ _ _ _ _ _ _ r h=>by simp [impl_work.l0] at h,fun _ _ _ _ _ _ _ _ r h=>by simp [impl_work.l1] at h,fun _ _ _ _ _ _ _ _ _ _ _ r h=>by simp [impl_work.l2] at h⟩
 | k + 1=>by
  obtain ⟨ih0,ih1,ih2⟩:=impl_work.mono_l k
  refine ⟨?_,?_,?_⟩
  ·intro y0 y1 y2 y3 y4 y5 y6 y7 y8
   unfold impl_work.l0
   repeat' first
   | (with_reducible exact ih0 _ _ _ _ _ _ _ _ _)
   | (with_reducible exact ih1 _ _ _ _ _ _ _ _)
   | (with_reducible exact ih2 _ _ _ _ _ _ _ _ _ _ _)
   | (with_reducible exact impl_can.mono _ _ _)
   | (with_reducible exact LeO.refl _)
   | (with_reducible exact LeO.none _)
   | (with_reducible refine LeO.ite ?_ ?_)
   | (with_reducible refine LeO.bind ?_ (fun _=>?_))
   | exact ih0 _ _ _ _ _ _ _ _ _
   | exact ih1 _ _ _ _ _ _ _ _
   | exact ih2 _ _ _ _ _ _ _ _ _ _ _
   | exact impl_can.mono _ _ _
   | exact LeO.none _
   | refine LeO.ite ?_ ?_
   | refine LeO.bind ?_ (fun _=>?_)
  ·intro y0 y1 y2 y3 y4 y5 y6 y7
   unfold impl_work.l1
   repeat' first
   | (with_reducible exact ih0 _ _ _ _ _ _ _ _ _)
   | (with_reducible exact ih1 _ _ _ _ _ _ _ _)
   | (with_reducible exact ih2 _ _ _ _ _ _ _ _ _ _ _)
   | (with_reducible exact impl_can.mono _ _ _)
   | (with_reducible exact LeO.refl _)
   | (with_reducible exact LeO.none _)
   | (with_reducible refine LeO.ite ?_ ?_)
   | (with_reducible refine LeO.bind ?_ (fun _=>?_))
   | exact ih0 _ _ _ _ _ _ _ _ _
   | exact ih1 _ _ _ _ _ _ _ _
   | exact ih2 _ _ _ _ _ _ _ _ _ _ _
   | exact impl_can.mono _ _ _
   | exact LeO.none _
   | refine LeO.ite ?_ ?_
   | refine LeO.bind ?_ (fun _=>?_)
  ·intro y0 y1 y2 y3 y4 y5 y6 y7 y8 y9 y10
   unfold impl_work.l2
   repeat' first
   | (with_reducible exact ih0 _ _ _ _ _ _ _ _ _)
   | (with_reducible exact ih1 _ _ _ _ _ _ _ _)
   | (with_reducible exact ih2 _ _ _ _ _ _ _ _ _ _ _)
   | (with_reducible exact impl_can.mono _ _ _)
   | (with_reducible exact LeO.refl _)
   | (with_reducible exact LeO.none _)
   | (with_reducible refine LeO.ite ?_ ?_)
   | (with_reducible refine LeO.bind ?_ (fun _=>?_))
   | exact ih0 _ _ _ _ _ _ _ _ _
   | exact ih1 _ _ _ _ _ _ _ _
   | exact ih2 _ _ _ _ _ _ _ _ _ _ _
   | exact impl_can.mono _ _ _
   | exact LeO.none _
   | refine LeO.ite ?_ ?_
   | refine LeO.bind ?_ (fun _=>?_)
theorem impl_work.mono : ∀ a0 a1 a2 a3 k,LeO (impl_work.f k a0 a1 a2 a3) (impl_work.f (k + 1) a0 a1 a2 a3):=by
 intro a0 a1 a2 a3 k
 obtain ⟨ih0,ih1,ih2⟩:=impl_work.mono_l k
 unfold impl_work.f
 repeat' first
   | (with_reducible exact ih0 _ _ _ _ _ _ _ _ _)
   | (with_reducible exact ih1 _ _ _ _ _ _ _ _)
   | (with_reducible exact ih2 _ _ _ _ _ _ _ _ _ _ _)
   | (with_reducible exact impl_can.mono _ _ _)
   | (with_reducible exact LeO.refl _)
   | (with_reducible exact LeO.none _)
   | (with_reducible refine LeO.ite ?_ ?_)
   | (with_reducible refine LeO.bind ?_ (fun _=>?_))
   | exact ih0 _ _ _ _ _ _ _ _ _
   | exact ih1 _ _ _ _ _ _ _ _
   | exact ih2 _ _ _ _ _ _ _ _ _ _ _
   | exact impl_can.mono _ _ _
   | exact LeO.none _
   | refine LeO.ite ?_ ?_
   | refine LeO.bind ?_ (fun _=>?_)
set_option maxHeartbeats 8000000 in
set_option maxRecDepth 100000 in
theorem impl_work.calls (k : Nat) (A0_0 : Option Addr) (c0_0 : Nat) (l0_0 : List Int) (A0_1 : Option Addr) (c0_1 : Nat) (l0_1 : List Int) (A0_2 : Option Addr) (c0_2 : Nat) (l0_2 : List Bool) (A0_3 : Option Addr) (c0_3 : Nat) (l0_3 : List (List Bool)) (r1 : List Int) (r2 : List Int) (w : World) (hr0_0 : Kd.C (Kd.int .i64) w A0_0 l0_0.length l0_0) (hc0_0 : l0_0.length ≤ c0_0) (hr0_1 : Kd.C (Kd.int .i64) w A0_1 l0_1.length l0_1) (hc0_1 : l0_1.length ≤ c0_1) (hr0_2 : Kd.C Kd.bool w A0_2 l0_2.length l0_2) (hc0_2 : l0_2.length ≤ c0_2) (hr0_3 : Kd.C (Kd.slice 4 Kd.bool) w A0_3 l0_3.length l0_3) (hc0_3 : l0_3.length ≤ c0_3) (h : impl_work.f k l0_0 l0_1 l0_2 l0_3 = some (r1,r2)) :
  Calls Try.prog 16 #[.agg #[.slice A0_0 l0_0.length c0_0,.slice A0_1 l0_1.length c0_1,.slice A0_2 l0_2.length c0_2,.slice A0_3 l0_3.length c0_3]] w fun e w'=>∃ v0_ v1_ : Value,e = .returned (.tuple #[v0_,v1_])∧Kd.R (Kd.int .i64) 3 w' w.heap.size (fun k_=>some k_ ≠ (v1_ : Value).ownBlock) v0_ r1∧Kd.R (Kd.int .i64) 3 w' w.heap.size (fun k_=>some k_ ≠ (v0_ : Value).ownBlock) v1_ r2∧Below w.heap.size w w':=by
 have hu29:=Try.underlying29
 have HR0_0:=zm hr0_0
 have HC0_0:=zm hc0_0
 clear hr0_0 hc0_0
 have HR0_1:=zm hr0_1
 have HC0_1:=zm hc0_1
 clear hr0_1 hc0_1
 have HR0_2:=zm hr0_2
 have HC0_2:=zm hc0_2
 clear hr0_2 hc0_2
 have HR0_3:=zm hr0_3
 have HC0_3:=zm hc0_3
 clear hr0_3 hc0_3
 have HB:=zm (Below.refl w.heap.size w)
 have H : (if 0 ≤ (l0_0.length : Int) then (if ((l0_0.length : Int) : Int).toNat ≤ 35184372088832 then (impl_work.l0 k (List.replicate ((l0_0.length : Int) : Int).toNat 0) (List.replicate ((l0_0.length : Int) : Int).toNat 0) (l0_0.length : Int) (l0_0.length : Int) 0 l0_0 l0_1 l0_2 l0_3) else (none)) else (none)) = some (r1,r2):=h
 clear h
 by_cases c2 : 0 ≤ (l0_0.length : Int)
 ·rw [if_pos c2] at H
  have c2b0:=eq_true c2
  have c2b1 : decide (0 ≤ (l0_0.length : Int)) = true:=decide_eq_true c2
  clear c2
  by_cases c3 : ((l0_0.length : Int) : Int).toNat ≤ 35184372088832
  ·rw [if_pos c3] at H
   have c3b0:=eq_true c3
   have c3b1 : decide (((l0_0.length : Int) : Int).toNat ≤ 35184372088832) = true:=decide_eq_true c3
   clear c3
   obtain ⟨y133,hy133⟩ : ∃ y_ : List Int,y_ = (List.replicate ((l0_0.length : Int) : Int).toNat 0):=⟨_,rfl⟩
   replace H : (impl_work.l0 k y133 (List.replicate ((l0_0.length : Int) : Int).toNat 0) (l0_0.length : Int) (l0_0.length : Int) 0 l0_0 l0_1 l0_2 l0_3) = some (r1,r2):=by first|(rw [hy133];with_reducible exact H)|(have H2_:=(Option.bind_some _ _).symm.trans H;rw [hy133];with_reducible exact H2_)|(have H2_:=(Option.bind_some _ _).symm.trans H;with_reducible exact H2_)|with_reducible exact H|(rw [hy133];exact H)|exact H
   have Ny133:=zm hy133
   clear hy133
   obtain ⟨y136,hy136⟩ : ∃ y_ : List Int,y_ = (List.replicate ((l0_0.length : Int) : Int).toNat 0):=⟨_,rfl⟩
   replace H : (impl_work.l0 k y133 y136 (l0_0.length : Int) (l0_0.length : Int) 0 l0_0 l0_1 l0_2 l0_3) = some (r1,r2):=by first|(rw [hy136];with_reducible exact H)|(have H2_:=(Option.bind_some _ _).symm.trans H;rw [hy136];with_reducible exact H2_)|(have H2_:=(Option.bind_some _ _).symm.trans H;with_reducible exact H2_)|with_reducible exact H|(rw [hy136];exact H)|exact H
   have Ny136:=zm hy136
   clear hy136
   have H':=zm H
   clear H
   go_enter Try.func16,Try.ntmps16
   try go_wp2_with (first|((with_reducible refine zM (N:=1) rfl ?_);refine zN ?hg (N:=1) ?hd (cs:=#[.slice A0_0 l0_0.length c0_0,.slice A0_1 l0_1.length c0_1,.slice A0_2 l0_2.length c0_2,.slice A0_3 l0_3.length c0_3]) (t:=29) ?hr ?_;(case hd=>rfl);(case hg=>rfl);(case hr=>first|(go_simp;done)|(go_simp;rfl));intro gb132 hg w4 hbox hb;have n0_:=zm (zK (by repeat (first|(with_reducible first|exact HB.out|apply zA|apply zB|apply zC)|exact HB.out)) hb);have n1_:=zm (hbox);have n2_:=zm ((by rw [hg];exact (zJ (by repeat (first|(with_reducible first|exact HB.out|apply zA|apply zB|apply zC)|exact HB.out))) : w.heap.size ≤ gb132));have n3_:=zm ((by rw [hg];exact (zJ (by repeat (first|(with_reducible first|exact HB.out|apply zA|apply zB|apply zC)|exact HB.out))) : w.heap.size ≤ gb132));clear HB;have HB:=n0_;have BK132:=n1_;have GW132:=n2_;have GE132:=n3_;clear n0_ n1_ n2_ n3_;clear hb hbox hg;have hcz5_0 : w4.cell? ⟨gb132,0,none⟩ = some (.slice A0_0 l0_0.length c0_0):=(zD BK132.out 0).trans rfl;have hcz5_1 : w4.cell? ⟨gb132,1,none⟩ = some (.slice A0_1 l0_1.length c0_1):=(zD BK132.out 1).trans rfl;have hcz5_2 : w4.cell? ⟨gb132,2,none⟩ = some (.slice A0_2 l0_2.length c0_2):=(zD BK132.out 2).trans rfl;have hcz5_3 : w4.cell? ⟨gb132,3,none⟩ = some (.slice A0_3 l0_3.length c0_3):=(zD BK132.out 3).trans rfl;have hfz5_0:=zE BK132.out 0;have hfz5_1:=zE BK132.out 1;have hfz5_2:=zE BK132.out 2;have hfz5_3:=zE BK132.out 3))
   have n0_:=zm (zI BK132.out)
   have n1_:=zm (zC HB.out)
   clear BK132
   clear HB
   have BK132:=n0_
   have HB:=n1_
   clear n0_ n1_
   refine start_ (n:=6) (S:=fun w'=>True) (ds:=[]) #[n',n',n',n',n',n'] (by kernel_rfl) rfl rfl trivial (fun hHeld=>?_)
   generalize w4.drew = w6 at BK132 HB hHeld ⊢
   refine pure_ (i:=0) (N:=some 14) (v:=?_) (a':=?_) #[y',n',n',n',n',n'] rfl rfl (by kernel_rfl) (fun _ _ _ h=>h) (Or.inl ⟨by rfl,?_⟩) ?_ ?_
   rotate_left
   ·intro w'
    go_simp
    with_reducible rfl
   rotate_left
   ·simp only [Act.put,List.setIfInBounds_toArray,List.set_cons_zero,List.set_cons_succ,i64_w,i32_w]
    rfl
   refine pure_ (i:=2) (N:=some 16) (v:=?_) (a':=?_) #[y',n',y',n',n',n'] rfl rfl (by kernel_rfl) (fun _ _ _ h=>h) (Or.inl ⟨by rfl,?_⟩) ?_ ?_
   rotate_left
   ·intro w'
    go_simp
    with_reducible rfl
   rotate_left
   ·simp only [Act.put,List.setIfInBounds_toArray,List.set_cons_zero,List.set_cons_succ,i64_w,i32_w]
    rfl
   refine join_ (σ:=Value × Value) 1 #[y',y',y',y',y',n'] (fun s_=>[(15,s_.1),(17,s_.2),(2,s_.1)]) (fun s_ w'=>(Kd.R (Kd.int .i64) 3 w' w.heap.size (fun k_=>some k_ ≠ (s_.2 : Value).ownBlock) s_.1 y133)∧(Kd.R (Kd.int .i64) 3 w' w.heap.size (fun k_=>some k_ ≠ (s_.1 : Value).ownBlock) s_.2 y136)∧(w'.heap[gb132]? = some (.cells #[.slice A0_0 l0_0.length c0_0,.slice A0_1 l0_1.length c0_1,.slice A0_2 l0_2.length c0_2,.slice A0_3 l0_3.length c0_3] 29 (0,0)))∧(Below w.heap.size w w')) ?_ ?_
   rotate_left
   ·intro hCont
    refine two_ (i:=1) (j:=3) (Ni:=some 15) (Nj:=some 17) #[y',y',y',n',n',n'] #[y',n',y',y',n',n'] rfl rfl rfl rfl (by kernel_rfl) (by decide) (by decide) (fun K hK=>?_) (fun K hK=>?_)
    ·skip
     refine Kd.R_make_step (Kd.int .i64) _ 3 (by rfl) (N:=15) rfl 25 _ _ rfl (l0_0.length : Int) rfl rfl Try.underlying25 (.int .i64 0) 8 info3 rfl (by decide) (by omega) 0 (ok:=fun _=>True) (okp:=fun _=>True) rfl (fun _ hk=>hk) trivial (of_decide_eq_true (by first|(with_reducible assumption)|assumption)) (Nat.le_trans (Nat.mul_le_mul_right _ (of_decide_eq_true (by first|(with_reducible assumption)|assumption) : (l0_0.length : Int).toNat ≤ 35184372088832)) (by omega)) (Below.refl _ _) (Nat.le_refl _) ?_
     intro v134 w7 ho8 hb hg_ hnew_
     clear hg_ hnew_
     (first|rw [← Ny133.out] at ho8|(simp only [Int.reduceToNat] at ho8;rw [← Ny133.out] at ho8))
     have n0_:=zm (zZ ho8 (zJ (by repeat (first|(with_reducible first|exact HB.out|apply zA|apply zB|apply zC|refine zF ?_ GE132.out)|exact HB.out))))
     have n1_:=zm (zL (g:=gb132) (o:=.cells #[.slice A0_0 l0_0.length c0_0,.slice A0_1 l0_1.length c0_1,.slice A0_2 l0_2.length c0_2,.slice A0_3 l0_3.length c0_3] 29 (0,0)) (by (with_reducible repeat (first|refine zH ?_ _|refine zI ?_|refine zG ?_ _));exact BK132.out) hb)
     have n2_:=zm (zK (by repeat (first|(with_reducible first|exact HB.out|apply zA|apply zB|apply zC|refine zF ?_ GE132.out)|exact HB.out)) hb)
     clear BK132
     clear HB
     have HO135:=n0_
     have BK132:=n1_
     have HB:=n2_
     clear n0_ n1_ n2_
     clear hb ho8
     refine hK.out _ _ trivial (fun hHeld=>?_)
     clear hK K
     refine norm_ (a':=?_) ?_ ?_
     rotate_left
     ·show Act.put _ (some 15) _ = _
      simp only [Act.put,List.setIfInBounds_toArray,List.set_cons_zero,List.set_cons_succ,i64_w,i32_w]
      rfl
     refine pure_ (i:=4) (N:=some 2) (v:=?_) (a':=?_) #[y',y',y',n',y',n'] rfl rfl (by kernel_rfl) (fun _ _ _ h=>h) (Or.inl ⟨by rfl,?_⟩) ?_ ?_
     rotate_left
     ·intro w'
      go_simp
      with_reducible rfl
     rotate_left
     ·simp only [Act.put,List.setIfInBounds_toArray,List.set_cons_zero,List.set_cons_succ,i64_w,i32_w]
      rfl
     refine one_ (i:=3) (N:=some 17) #[y',y',y',y',y',n'] rfl rfl (by kernel_rfl) (by decide) (fun K hK=>?_)
     refine Kd.R_make_step (Kd.int .i64) _ 3 (by rfl) (N:=17) rfl 25 _ _ rfl (l0_0.length : Int) rfl rfl Try.underlying25 (.int .i64 0) 8 info3 rfl (by decide) (by omega) 0 (ok:=fun _=>True) (okp:=fun _=>True) rfl (fun _ hk=>hk) trivial (of_decide_eq_true (by first|(with_reducible assumption)|assumption)) (Nat.le_trans (Nat.mul_le_mul_right _ (of_decide_eq_true (by first|(with_reducible assumption)|assumption) : (l0_0.length : Int).toNat ≤ 35184372088832)) (by omega)) (Below.refl _ _) (Nat.le_refl _) ?_
     intro v137 w9 ho10 hb hg_ hnew_
     clear hg_ hnew_
     (first|rw [← Ny136.out] at ho10|(simp only [Int.reduceToNat] at ho10;rw [← Ny136.out] at ho10))
     have n0_:=zm (zGb (by (with_reducible repeat (first|apply zP|apply zQ|apply zR));exact HO135.out) (zCb ho10) hb)
     have n1_:=zm (zZ (Kd.R_new' ho10 (Kd.R_lt (by (with_reducible repeat (first|apply zP|apply zQ|apply zR));exact HO135.out))) (zJ (by repeat (first|(with_reducible first|exact HB.out|apply zA|apply zB|apply zC|refine zF ?_ GE132.out)|exact HB.out))))
     have n2_:=zm (zL (g:=gb132) (o:=.cells #[.slice A0_0 l0_0.length c0_0,.slice A0_1 l0_1.length c0_1,.slice A0_2 l0_2.length c0_2,.slice A0_3 l0_3.length c0_3] 29 (0,0)) (by (with_reducible repeat (first|refine zH ?_ _|refine zI ?_|refine zG ?_ _));exact BK132.out) hb)
     have n3_:=zm (zK (by repeat (first|(with_reducible first|exact HB.out|apply zA|apply zB|apply zC|refine zF ?_ GE132.out)|exact HB.out)) hb)
     clear HO135
     clear BK132
     clear HB
     have HO135:=n0_
     have HO138:=n1_
     have BK132:=n2_
     have HB:=n3_
     clear n0_ n1_ n2_ n3_
     clear hb ho10
     refine hK.out _ _ trivial (fun hHeld=>?_)
     clear hK K
     refine norm_ (a':=?_) ?_ ?_
     rotate_left
     ·show Act.put _ (some 17) _ = _
      simp only [Act.put,List.setIfInBounds_toArray,List.set_cons_zero,List.set_cons_succ,i64_w,i32_w]
      rfl
     exact norm_ (by simp only [putAll,Act.put,List.setIfInBounds_toArray,List.set_cons_zero,List.set_cons_succ]) (hCont (v134,v137) _ ⟨(by (with_reducible repeat (first|apply zP|apply zQ|apply zR));exact zS HO135.out (fun _ hk=>hk.2)),(by (with_reducible repeat (first|apply zP|apply zQ|apply zR));exact zS HO138.out (fun _ hk=>hk.2)),(by (with_reducible repeat (first|refine zH ?_ _|refine zI ?_|refine zG ?_ _));exact BK132.out),(by repeat (first|(with_reducible first|exact HB.out|apply zA|apply zB|apply zC|refine zF ?_ GE132.out)|exact HB.out))⟩)
    ·skip
     refine Kd.R_make_step (Kd.int .i64) _ 3 (by rfl) (N:=17) rfl 25 _ _ rfl (l0_0.length : Int) rfl rfl Try.underlying25 (.int .i64 0) 8 info3 rfl (by decide) (by omega) 0 (ok:=fun _=>True) (okp:=fun _=>True) rfl (fun _ hk=>hk) trivial (of_decide_eq_true (by first|(with_reducible assumption)|assumption)) (Nat.le_trans (Nat.mul_le_mul_right _ (of_decide_eq_true (by first|(with_reducible assumption)|assumption) : (l0_0.length : Int).toNat ≤ 35184372088832)) (by omega)) (Below.refl _ _) (Nat.le_refl _) ?_
     intro v137 w7 ho8 hb hg_ hnew_
     clear hg_ hnew_
     (first|rw [← Ny136.out] at ho8|(simp only [Int.reduceToNat] at ho8;rw [← Ny136.out] at ho8))
     have n0_:=zm (zZ ho8 (zJ (by repeat (first|(with_reducible first|exact HB.out|apply zA|apply zB|apply zC|refine zF ?_ GE132.out)|exact HB.out))))
     have n1_:=zm (zL (g:=gb132) (o:=.cells #[.slice A0_0 l0_0.length c0_0,.slice A0_1 l0_1.length c0_1,.slice A0_2 l0_2.length c0_2,.slice A0_3 l0_3.length c0_3] 29 (0,0)) (by (with_reducible repeat (first|refine zH ?_ _|refine zI ?_|refine zG ?_ _));exact BK132.out) hb)
     have n2_:=zm (zK (by repeat (first|(with_reducible first|exact HB.out|apply zA|apply zB|apply zC|refine zF ?_ GE132.out)|exact HB.out)) hb)
     clear BK132
     clear HB
     have HO138:=n0_
     have BK132:=n1_
     have HB:=n2_
     clear n0_ n1_ n2_
     clear hb ho8
     refine hK.out _ _ trivial (fun hHeld=>?_)
     clear hK K
     refine norm_ (a':=?_) ?_ ?_
     rotate_left
     ·show Act.put _ (some 17) _ = _
      simp only [Act.put,List.setIfInBounds_toArray,List.set_cons_zero,List.set_cons_succ,i64_w,i32_w]
      rfl
     refine one_ (i:=1) (N:=some 15) #[y',y',y',y',n',n'] rfl rfl (by kernel_rfl) (by decide) (fun K hK=>?_)
     refine Kd.R_make_step (Kd.int .i64) _ 3 (by rfl) (N:=15) rfl 25 _ _ rfl (l0_0.length : Int) rfl rfl Try.underlying25 (.int .i64 0) 8 info3 rfl (by decide) (by omega) 0 (ok:=fun _=>True) (okp:=fun _=>True) rfl (fun _ hk=>hk) trivial (of_decide_eq_true (by first|(with_reducible assumption)|assumption)) (Nat.le_trans (Nat.mul_le_mul_right _ (of_decide_eq_true (by first|(with_reducible assumption)|assumption) : (l0_0.length : Int).toNat ≤ 35184372088832)) (by omega)) (Below.refl _ _) (Nat.le_refl _) ?_
     intro v134 w9 ho10 hb hg_ hnew_
     clear hg_ hnew_
     (first|rw [← Ny133.out] at ho10|(simp only [Int.reduceToNat] at ho10;rw [← Ny133.out] at ho10))
     have n0_:=zm (zGb (by (with_reducible repeat (first|apply zP|apply zQ|apply zR));exact HO138.out) (zCb ho10) hb)
     have n1_:=zm (zZ (Kd.R_new' ho10 (Kd.R_lt (by (with_reducible repeat (first|apply zP|apply zQ|apply zR));exact HO138.out))) (zJ (by repeat (first|(with_reducible first|exact HB.out|apply zA|apply zB|apply zC|refine zF ?_ GE132.out)|exact HB.out))))
     have n2_:=zm (zL (g:=gb132) (o:=.cells #[.slice A0_0 l0_0.length c0_0,.slice A0_1 l0_1.length c0_1,.slice A0_2 l0_2.length c0_2,.slice A0_3 l0_3.length c0_3] 29 (0,0)) (by (with_reducible repeat (first|refine zH ?_ _|refine zI ?_|refine zG ?_ _));exact BK132.out) hb)
     have n3_:=zm (zK (by repeat (first|(with_reducible first|exact HB.out|apply zA|apply zB|apply zC|refine zF ?_ GE132.out)|exact HB.out)) hb)
     clear HO138
     clear BK132
     clear HB
     have HO138:=n0_
     have HO135:=n1_
     have BK132:=n2_
     have HB:=n3_
     clear n0_ n1_ n2_ n3_
     clear hb ho10
     refine hK.out _ _ trivial (fun hHeld=>?_)
     clear hK K
     refine norm_ (a':=?_) ?_ ?_
     rotate_left
     ·show Act.put _ (some 15) _ = _
      simp only [Act.put,List.setIfInBounds_toArray,List.set_cons_zero,List.set_cons_succ,i64_w,i32_w]
      rfl
     refine pure_ (i:=4) (N:=some 2) (v:=?_) (a':=?_) #[y',y',y',y',y',n'] rfl rfl (by kernel_rfl) (fun _ _ _ h=>h) (Or.inl ⟨by rfl,?_⟩) ?_ ?_
     rotate_left
     ·intro w'
      go_simp
      with_reducible rfl
     rotate_left
     ·simp only [Act.put,List.setIfInBounds_toArray,List.set_cons_zero,List.set_cons_succ,i64_w,i32_w]
      rfl
     exact norm_ (by simp only [putAll,Act.put,List.setIfInBounds_toArray,List.set_cons_zero,List.set_cons_succ]) (hCont (v134,v137) _ ⟨(by (with_reducible repeat (first|apply zP|apply zQ|apply zR));exact zS HO135.out (fun _ hk=>hk.2)),(by (with_reducible repeat (first|apply zP|apply zQ|apply zR));exact zS HO138.out (fun _ hk=>hk.2)),(by (with_reducible repeat (first|refine zH ?_ _|refine zI ?_|refine zG ?_ _));exact BK132.out),(by repeat (first|(with_reducible first|exact HB.out|apply zA|apply zB|apply zC|refine zF ?_ GE132.out)|exact HB.out))⟩)
   rintro ⟨v134,v137⟩ w11 ⟨h0_,h1_,h2_,h3_⟩
   have n0_ : Aside0 (Kd.R (Kd.int .i64) 3 w11 w.heap.size (fun k_=>some k_ ≠ (v137 : Value).ownBlock) v134 y133):=⟨h0_⟩
   have n1_ : Aside0 (Kd.R (Kd.int .i64) 3 w11 w.heap.size (fun k_=>some k_ ≠ (v134 : Value).ownBlock) v137 y136):=⟨h1_⟩
   have n2_ : Aside0 (w11.heap[gb132]? = some (.cells #[.slice A0_0 l0_0.length c0_0,.slice A0_1 l0_1.length c0_1,.slice A0_2 l0_2.length c0_2,.slice A0_3 l0_3.length c0_3] 29 (0,0))):=⟨h2_⟩
   have n3_ : Aside0 (Below w.heap.size w w11):=⟨h3_⟩
   clear BK132
   clear HB
   clear h0_ h1_ h2_ h3_
   have HO135:=n0_
   have HO138:=n1_
   have BK132:=n2_
   have HB:=n3_
   clear n0_ n1_ n2_ n3_
   have hHeld:=trivial
   refine norm_ (a':=?_) ?_ ?_
   rotate_left
   ·simp only [putAll,Act.put,List.setIfInBounds_toArray,List.set_cons_zero,List.set_cons_succ]
    rfl
   refine pure_ (i:=5) (N:=some 3) (v:=?_) (a':=?_) #[y',y',y',y',y',y'] rfl rfl (by kernel_rfl) (fun _ _ _ h=>h) (Or.inl ⟨by rfl,?_⟩) ?_ ?_
   rotate_left
   ·intro w'
    go_simp
    with_reducible rfl
   rotate_left
   ·simp only [Act.put,List.setIfInBounds_toArray,List.set_cons_zero,List.set_cons_succ,i64_w,i32_w]
    rfl
   refine done_ (by kernel_rfl) ?_
   try go_wp2
   go_loopg [19] k (fun kq v19 w'=>∃ (x3_1 : List Int) (x19_1 : Int),v19 = .int .i64 x19_1∧Aside0 (impl_work.l0 kq y133 x3_1 (l0_0.length : Int) (l0_0.length : Int) x19_1 l0_0 l0_1 l0_2 l0_3 = some (r1,r2))∧Aside0 (kq ≤ k)∧Aside0 (Kd.R (Kd.int .i64) 3 w' w.heap.size (fun k_=>some k_ ≠ (v137 : Value).ownBlock) v134 y133)∧Aside0 (Kd.R (Kd.int .i64) 3 w' w.heap.size (fun k_=>some k_ ≠ (v134 : Value).ownBlock) v137 x3_1)∧Aside0 (w'.heap[gb132]? = some (.cells #[(.slice A0_0 l0_0.length c0_0),(.slice A0_1 l0_1.length c0_1),(.slice A0_2 l0_2.length c0_2),(.slice A0_3 l0_3.length c0_3)] 29 (0,0)))∧Aside0 (Below w.heap.size w w'))
   case atStart=>exact ⟨(y136),(0),(by first|rfl|(simp;done)|(simp [*];done)),H',⟨Nat.le_refl _⟩,⟨by (with_reducible repeat (first|apply zP|apply zQ|apply zR));exact HO135.out⟩,⟨by (with_reducible repeat (first|apply zP|apply zQ|apply zR));exact HO138.out⟩,⟨by (with_reducible repeat (first|refine zH ?_ _|refine zI ?_|refine zG ?_ _));exact BK132.out⟩,⟨by repeat (first|(with_reducible first|exact HB.out|apply zA|apply zB|apply zC|refine zF ?_ GE132.out)|exact HB.out)⟩⟩
   case round =>
    clear H'
    try clear c1
    try clear c2
    try clear c2b0
    try clear c2b1
    try clear p2
    try clear c3
    try clear c3b0
    try clear c3b1
    try clear hcz5_0
    try clear hcz5_1
    try clear hcz5_2
    try clear hcz5_3
    try clear hfz5_0
    try clear hfz5_1
    try clear hfz5_2
    try clear hfz5_3
    obtain ⟨x3_1,x19_1,rfl,HA,HK1,HO_2,HO_3,BK132,HB⟩:=hrel
    cases gk with
    | zero=>exact absurd HA.out (by simp [impl_work.l0])
    | succ k1 =>
     have H:=HA.out
     clear HA
     simp only [impl_work.l0] at H
     by_cases c12 : x19_1 < (l0_0.length : Int)
     ·rw [if_pos c12] at H
      have c12b0 : decide (x19_1 < (l0_0.length : Int)) = true:=decide_eq_true c12
      clear c12
      by_cases c13 : 0 ≤ x19_1
      ·rw [if_pos c13] at H
       have c13b0 : decide (0 ≤ x19_1) = true:=decide_eq_true c13
       clear c13
       by_cases c14 : x19_1 < (l0_3.length : Int)
       ·rw [if_pos c14] at H
        have c14b0 : decide (x19_1 < (l0_3.length : Int)) = true:=decide_eq_true c14
        clear c14
        replace H:=Option.bind_eq_some_iff.mp H
        obtain ⟨t140,A150,H⟩:=H
        replace H : (if x19_1 < (x3_1.length : Int) then (impl_work.l0 k1 y133 (x3_1.set (x19_1 : Int).toNat t140) (l0_0.length : Int) (l0_0.length : Int) (wrap64 (x19_1 + 1)) l0_0 l0_1 l0_2 l0_3) else (none)) = some (r1,r2):=H
        have A15:=zm A150
        clear A150
        by_cases c16 : x19_1 < (x3_1.length : Int)
        ·rw [if_pos c16] at H
         have c16b0 : decide (x19_1 < (x3_1.length : Int)) = true:=decide_eq_true c16
         clear c16
         obtain ⟨y141,hy141⟩ : ∃ y_ : List Int,y_ = (x3_1.set (x19_1 : Int).toNat t140):=⟨_,rfl⟩
         replace H : (impl_work.l0 k1 y133 y141 (l0_0.length : Int) (l0_0.length : Int) (wrap64 (x19_1 + 1)) l0_0 l0_1 l0_2 l0_3) = some (r1,r2):=by first|(rw [hy141];with_reducible exact H)|(have H2_:=(Option.bind_some _ _).symm.trans H;rw [hy141];with_reducible exact H2_)|(have H2_:=(Option.bind_some _ _).symm.trans H;with_reducible exact H2_)|with_reducible exact H|(rw [hy141];exact H)|exact H
         have Ny141:=zm hy141
         clear hy141
         have H':=zm H
         clear H
         have hcz18_0 : wr.cell? ⟨gb132,0,none⟩ = some (.slice A0_0 l0_0.length c0_0):=(zD BK132.out 0).trans rfl
         have hcz18_1 : wr.cell? ⟨gb132,1,none⟩ = some (.slice A0_1 l0_1.length c0_1):=(zD BK132.out 1).trans rfl
         have hcz18_2 : wr.cell? ⟨gb132,2,none⟩ = some (.slice A0_2 l0_2.length c0_2):=(zD BK132.out 2).trans rfl
         have hcz18_3 : wr.cell? ⟨gb132,3,none⟩ = some (.slice A0_3 l0_3.length c0_3):=(zD BK132.out 3).trans rfl
         have hfz18_0:=zE BK132.out 0
         have hfz18_1:=zE BK132.out 1
         have hfz18_2:=zE BK132.out 2
         have hfz18_3:=zE BK132.out 3
         have p139 : 0 ≤ (x19_1 : Int):=of_decide_eq_true (by first|(with_reducible assumption)|assumption)
         have q139 : x19_1 < (l0_3.length : Int):=of_decide_eq_true (by first|(with_reducible assumption)|assumption)
         obtain ⟨ad139,A139_0,c139_0,e139,hx139_0,hl139_0,hi139_0⟩:=at_L3 HR0_3.out x19_1 p139 q139
         cases e139
         replace hx139_0:=(HB.out.cell (World.block_lt_of_cell? w _ hx139_0)).trans hx139_0
         have HR139_0:=zm hi139_0
         have HC139_0:=zm hl139_0
         clear hi139_0 hl139_0
         replace p139:=eq_true p139
         replace q139:=eq_true q139
         go_wp2_with (first|((with_reducible refine gate_callee (f:=20) rfl ?_);refine goesL_ (some 29) rfl rfl Try.func20 (by kernel_rfl) rfl #[.slice A139_0 (rd_L3 l0_3 x19_1).length c139_0,.int .i64 0] rfl (by (try simp only [List.map_toArray,List.map_cons,List.map_nil]);first|done|rfl|(simp only [List.length_drop,List.length_take];rfl)) ?_;(with_reducible refine (impl_can.calls k1 _ _ (rd_L3 l0_3 x19_1) 0 t140 _ ?side1 ?side2 A15.out).mono ?_);(case side1=>repeat (first|exact (zY HR139_0.out HB.out)|(with_reducible refine zT ?_ _)|(with_reducible refine zU ?_ _)|(with_reducible refine zV ?_)));(case side2=>exact HC139_0.out);rintro e w' ⟨rfl,⟨nd,rfl⟩⟩;refine ⟨_,rfl,?_⟩;(try (rw [drewN_self wr];generalize hq_ : World.drewN wr _ = wr;have n0_ : Aside0 (Kd.R (Kd.int .i64) 3 wr w.heap.size (fun k_=>some k_ ≠ (v137 : Value).ownBlock) v134 y133):=⟨by rw [← hq_];exact (by (with_reducible repeat (first|apply zP|apply zQ|apply zR));exact HO_2.out)⟩;have n1_ : Aside0 (Kd.R (Kd.int .i64) 3 wr w.heap.size (fun k_=>some k_ ≠ (v134 : Value).ownBlock) v137 x3_1):=⟨by rw [← hq_];exact (by (with_reducible repeat (first|apply zP|apply zQ|apply zR));exact HO_3.out)⟩;have n2_ : Aside0 (wr.heap[gb132]? = some (.cells #[.slice A0_0 l0_0.length c0_0,.slice A0_1 l0_1.length c0_1,.slice A0_2 l0_2.length c0_2,.slice (some ad139) l0_3.length c0_3] 29 (0,0))):=⟨by rw [← hq_];exact (by (with_reducible repeat (first|refine zH ?_ _|refine zI ?_|refine zG ?_ _));exact BK132.out)⟩;have n3_ : Aside0 (Below w.heap.size w wr):=⟨by rw [← hq_];exact (by repeat (first|(with_reducible first|exact HB.out|apply zA|apply zB|apply zC|refine zF ?_ GE132.out)|exact HB.out))⟩;clear HO_2 HO_3 BK132 HB hq_;have HO_2:=n0_;have HO_3:=n1_;have BK132:=n2_;have HB:=n3_;clear n0_ n1_ n2_ n3_));have p17 : 0 ≤ (x19_1 : Int):=of_decide_eq_true (by first|(with_reducible assumption)|assumption);have q17 : (x19_1 : Int) < ((x3_1.length : Int) : Int):=of_decide_eq_true (by first|(with_reducible assumption)|assumption);obtain ⟨go17,co17,eo17,gb17,gl17,cl17,HG17⟩:=Kd.R_form HO_3.out (by omega);(first|cases eo17|(injection eo17 with ea_ en_ ec_;(first|subst ea_|(injection ea_ with ea_;subst ea_));subst ec_;clear en_));have GB17:=zm gb17;have GG17:=zm HG17;clear gb17 gl17 HG17;obtain ⟨hx17_0,hf17_0⟩:=Kd.R_celln 0 HO_3.out (x19_1 : Int) p17 q17;replace p17:=eq_true p17;replace q17:=eq_true q17;obtain ⟨hy19_,hz19_⟩:=Kd.R_celln 0 HO_3.out (x19_1 : Int) (of_decide_eq_true (by first|(with_reducible assumption)|assumption)) (of_decide_eq_true (by first|(with_reducible assumption)|assumption));have HP19:=Kd.R_putg HO_3.out (x19_1 : Int) t140)|((with_reducible refine gate_store (t:=3) (p:=30) rfl ?_);refine store_event (t:=3) (p:=30) (v:=?vo_w20) (w1:=(wr.setCell ⟨go17,(x19_1 : Int).toNat,none⟩ (.int .i64 t140))) ?hg ?ho ?hn ?hr ?_;(case ho=>rfl);(case hg=>rfl);(case hn=>rfl);(case hr=>first|(go_simp;done)|(go_simp;rfl));intro w20 hw;have hg : wr.grownBy w20 (some go17):=(by rw [hw];exact HP19.2);have hp_ : Kd.R (Kd.int .i64) 3 w20 w.heap.size (fun k_=>some k_ ≠ (v134 : Value).ownBlock) (.slice (some ⟨go17,0,none⟩) x3_1.length co17) y141:=(by rw [hw,Ny141.out];exact HP19.1);clear HP19;have n0_:=zm (Kd.R_after (v:=(.slice (some ⟨go17,0,none⟩) x3_1.length co17)) (v1:=(.slice (some ⟨go17,0,none⟩) x3_1.length co17)) (ok:=(fun _=>True)) (by (with_reducible repeat (first|apply zP|apply zQ|apply zR));exact zS HO_2.out (fun _ hk=>⟨trivial,hk⟩)) hg (.inl rfl));have n1_:=zm (hp_);have n2_:=zm (blk_grown (g:=gb132) (o:=.cells #[.slice A0_0 l0_0.length c0_0,.slice A0_1 l0_1.length c0_1,.slice A0_2 l0_2.length c0_2,.slice (some ad139) l0_3.length c0_3] 29 (0,0)) (by (with_reducible repeat (first|refine zH ?_ _|refine zI ?_|refine zG ?_ _));exact BK132.out) hg (Kd.R_ne HO_3.out BK132.out (by decide)));have n3_:=zm ((by rw [hw];exact zF (HB.out) GB17.out : Below w.heap.size w w20));clear HO_2;clear HO_3;clear BK132;clear HB;have HO_2:=n0_;have HO_3:=n1_;have BK132:=n2_;have HB:=n3_;clear n0_ n1_ n2_ n3_;clear hg hw hp_))
         go_roundg k1
         case measure=>have:=HK1.out;omega
         case rel=>exact ⟨(y141),(wrap64 (x19_1 + 1)),(by first|rfl|(simp;done)|(simp [*];done)),H',⟨by have:=HK1.out;omega⟩,⟨by (with_reducible repeat (first|apply zP|apply zQ|apply zR));exact zS HO_2.out (fun _ hk=>hk.2)⟩,⟨by (with_reducible repeat (first|apply zP|apply zQ|apply zR));exact HO_3.out⟩,⟨by (with_reducible repeat (first|refine zH ?_ _|refine zI ?_|refine zG ?_ _));exact BK132.out⟩,⟨by repeat (first|(with_reducible first|exact HB.out|apply zA|apply zB|apply zC|refine zF ?_ GE132.out)|exact HB.out)⟩⟩
        ·rw [if_neg c16] at H
         exact absurd H (by simp)
       ·rw [if_neg c14] at H
        exact absurd H (by simp)
      ·rw [if_neg c13] at H
       exact absurd H (by simp)
     ·rw [if_neg c12] at H
      have c12b0 : decide (x19_1 < (l0_0.length : Int)) = false:=decide_eq_false c12
      clear c12
      have H':=zm H
      clear H
      go_wp2
      go_loopg [3,6] k1 (fun kq v3 v6 w'=>∃ (x2_2 : List Int) (x3_2 : List Int) (x6_2 : Bool),v6 = .bool x6_2∧Aside0 (impl_work.l1 kq x2_2 x3_2 (l0_0.length : Int) x6_2 l0_0 l0_1 l0_2 l0_3 = some (r1,r2))∧Aside0 (kq ≤ k1)∧Aside0 (Kd.R (Kd.int .i64) 3 w' w.heap.size (fun k_=>some k_ ≠ (v3 : Value).ownBlock) v134 x2_2)∧Aside0 (Kd.R (Kd.int .i64) 3 w' w.heap.size (fun k_=>some k_ ≠ (v134 : Value).ownBlock) v3 x3_2)∧Aside0 (w'.heap[gb132]? = some (.cells #[(.slice A0_0 l0_0.length c0_0),(.slice A0_1 l0_1.length c0_1),(.slice A0_2 l0_2.length c0_2),(.slice A0_3 l0_3.length c0_3)] 29 (0,0)))∧Aside0 (Below w.heap.size w w'))
      case atStart=>exact ⟨(y133),(x3_1),(true),(by first|rfl|(simp;done)|(simp [*];done)),H',⟨Nat.le_refl _⟩,⟨by (with_reducible repeat (first|apply zP|apply zQ|apply zR));exact HO_2.out⟩,⟨by (with_reducible repeat (first|apply zP|apply zQ|apply zR));exact HO_3.out⟩,⟨by (with_reducible repeat (first|refine zH ?_ _|refine zI ?_|refine zG ?_ _));exact BK132.out⟩,⟨by repeat (first|(with_reducible first|exact HB.out|apply zA|apply zB|apply zC|refine zF ?_ GE132.out)|exact HB.out)⟩⟩
      case round =>
       clear H'
       try clear c1
       try clear p1
       try clear q1
       try clear hx1
       try clear hf1
       try clear c2
       try clear c2b0
       try clear c2b1
       try clear p2
       try clear c3
       try clear c3b0
       try clear c3b1
       try clear p6
       try clear c12
       try clear c12b0
       try clear c13
       try clear c13b0
       try clear p13
       try clear q13
       try clear hx13
       try clear c14
       try clear c14b0
       try clear c16
       try clear c16b0
       try clear p17
       try clear q17
       try clear hx17
       try clear hf17
       try clear c20
       try clear hcz18_0
       try clear hcz18_1
       try clear hcz18_2
       try clear hcz18_3
       try clear hcz5_0
       try clear hcz5_1
       try clear hcz5_2
       try clear hcz5_3
       try clear hfz18_0
       try clear hfz18_1
       try clear hfz18_2
       try clear hfz18_3
       try clear hfz5_0
       try clear hfz5_1
       try clear hfz5_2
       try clear hfz5_3
       try clear hx139_0
       try clear hx17_0
       try clear p139
       try clear p17
       try clear p2
       try clear q139
       try clear q17
       obtain ⟨x2_2,x3_2,x6_2,rfl,HA,HK2,HO_2,HO_3,BK132,HB⟩:=hrel
       cases gk with
       | zero=>exact absurd HA.out (by simp [impl_work.l1])
       | succ k2 =>
        have H:=HA.out
        clear HA
        simp only [impl_work.l1] at H
        by_cases c21 : x6_2 = true
        ·subst c21
         have H1 : ((slices_Clone_int_int.f x3_2).bind fun t142=>(impl_work.l2 k2 x2_2 x3_2 (l0_0.length : Int) false t142 (l0_0.length : Int) 0 l0_0 l0_1 l0_2 l0_3)) = some (r1,r2):=by rw [if_pos rfl] at H;exact H
         clear H
         have H:=H1
         clear H1
         replace H:=Option.bind_eq_some_iff.mp H
         obtain ⟨t142,A220,H⟩:=H
         replace H : (impl_work.l2 k2 x2_2 x3_2 (l0_0.length : Int) false t142 (l0_0.length : Int) 0 l0_0 l0_1 l0_2 l0_3) = some (r1,r2):=H
         have A22:=zm A220
         clear A220
         have H':=zm H
         clear H
         obtain ⟨Ao23,co23,eo23⟩:=zAb HO_3.out
         subst eo23
         go_wp2_with (first|((with_reducible refine gate_callee (f:=21) rfl ?_);refine goesL_ (some 34) rfl rfl Try.func21 (by kernel_rfl) rfl #[.slice Ao23 x3_2.length co23] rfl (by (try simp only [List.map_toArray,List.map_cons,List.map_nil]);first|done|rfl|(simp only [List.length_drop,List.length_take];rfl)) ?_;(with_reducible refine (slices_Clone_int_int.calls _ _ x3_2 t142 _ ?side1 ?side2 A22.out).mono ?_);(case side1=>repeat (first|exact (zW HO_3.out).2.2|(with_reducible refine zT ?_ _)|(with_reducible refine zU ?_ _)|(with_reducible refine zV ?_)));(case side2=>exact (zW HO_3.out).2.1);rintro e w24 ⟨v143,rfl,ho0,hb⟩;refine ⟨_,rfl,?_⟩;have n0_:=zm (zGb (by (with_reducible repeat (first|apply zP|apply zQ|apply zR));exact HO_2.out) (zCb ho0) hb);have n1_:=zm (zGb (by (with_reducible repeat (first|apply zP|apply zQ|apply zR));exact HO_3.out) (zCb ho0) hb);have n2_:=zm (zZ (Kd.R_new' (Kd.R_new' ho0 (Kd.R_lt (by (with_reducible repeat (first|apply zP|apply zQ|apply zR));exact HO_2.out))) (Kd.R_lt (by (with_reducible repeat (first|apply zP|apply zQ|apply zR));exact HO_3.out))) (zJ (by repeat (first|(with_reducible first|exact HB.out|apply zA|apply zB|apply zC|refine zF ?_ GE132.out)|exact HB.out))));have n3_:=zm (zL (g:=gb132) (o:=.cells #[.slice A0_0 l0_0.length c0_0,.slice A0_1 l0_1.length c0_1,.slice A0_2 l0_2.length c0_2,.slice A0_3 l0_3.length c0_3] 29 (0,0)) (by (with_reducible repeat (first|refine zH ?_ _|refine zI ?_|refine zG ?_ _));exact BK132.out) hb);have n4_:=zm (zK (by repeat (first|(with_reducible first|exact HB.out|apply zA|apply zB|apply zC|refine zF ?_ GE132.out)|exact HB.out)) hb);clear HO_2;clear HO_3;clear BK132;clear HB;have HO_2:=n0_;have HO_3:=n1_;have HO144:=n2_;have BK132:=n3_;have HB:=n4_;clear n0_ n1_ n2_ n3_ n4_;(try clear hb);(try clear hb2);(try clear hk);(try clear hi);(try clear ho0)))
         go_loopg [6,36] k2 (fun kq v6 v36 w'=>∃ (x2_3 : List Int) (x6_3 : Bool) (x7_3 : List Int) (x36_3 : Int),v6 = .bool x6_3∧v36 = .int .i64 x36_3∧Aside0 (impl_work.l2 kq x2_3 x3_2 (l0_0.length : Int) x6_3 x7_3 (l0_0.length : Int) x36_3 l0_0 l0_1 l0_2 l0_3 = some (r1,r2))∧Aside0 (kq ≤ k2)∧Aside0 (Kd.R (Kd.int .i64) 3 w' w.heap.size (fun k_=>some k_ ≠ ((.slice Ao23 x3_2.length co23) : Value).ownBlock∧some k_ ≠ (v143 : Value).ownBlock) v134 x2_3)∧Aside0 (Kd.R (Kd.int .i64) 3 w' w.heap.size (fun k_=>some k_ ≠ (v134 : Value).ownBlock∧some k_ ≠ (v143 : Value).ownBlock) (.slice Ao23 x3_2.length co23) x3_2)∧Aside0 (Kd.R (Kd.int .i64) 3 w' w.heap.size (fun k_=>some k_ ≠ (v134 : Value).ownBlock∧some k_ ≠ ((.slice Ao23 x3_2.length co23) : Value).ownBlock) v143 x7_3)∧Aside0 (w'.heap[gb132]? = some (.cells #[(.slice A0_0 l0_0.length c0_0),(.slice A0_1 l0_1.length c0_1),(.slice A0_2 l0_2.length c0_2),(.slice A0_3 l0_3.length c0_3)] 29 (0,0)))∧Aside0 (Below w.heap.size w w'))
         case atStart=>exact ⟨(x2_2),(false),(t142),(0),(by first|rfl|(simp;done)|(simp [*];done)),(by first|rfl|(simp;done)|(simp [*];done)),H',⟨Nat.le_refl _⟩,⟨by (with_reducible repeat (first|apply zP|apply zQ|apply zR));exact HO_2.out⟩,⟨by (with_reducible repeat (first|apply zP|apply zQ|apply zR));exact HO_3.out⟩,⟨by (with_reducible repeat (first|apply zP|apply zQ|apply zR));exact zS HO144.out (fun _ hk=>⟨hk.1.2,hk.2⟩)⟩,⟨by (with_reducible repeat (first|refine zH ?_ _|refine zI ?_|refine zG ?_ _));exact BK132.out⟩,⟨by repeat (first|(with_reducible first|exact HB.out|apply zA|apply zB|apply zC|refine zF ?_ GE132.out)|exact HB.out)⟩⟩
         case round =>
          clear H'
          try clear c1
          try clear p1
          try clear q1
          try clear hx1
          try clear hf1
          try clear c2
          try clear c2b0
          try clear c2b1
          try clear p2
          try clear c3
          try clear c3b0
          try clear c3b1
          try clear p6
          try clear c12
          try clear c12b0
          try clear c13
          try clear c13b0
          try clear p13
          try clear q13
          try clear hx13
          try clear c14
          try clear c14b0
          try clear c16
          try clear c16b0
          try clear p17
          try clear q17
          try clear hx17
          try clear hf17
          try clear c20
          try clear c21
          try clear hcz18_0
          try clear hcz18_1
          try clear hcz18_2
          try clear hcz18_3
          try clear hcz5_0
          try clear hcz5_1
          try clear hcz5_2
          try clear hcz5_3
          try clear hfz18_0
          try clear hfz18_1
          try clear hfz18_2
          try clear hfz18_3
          try clear hfz5_0
          try clear hfz5_1
          try clear hfz5_2
          try clear hfz5_3
          try clear hx139_0
          try clear hx17_0
          try clear p1
          try clear p13
          try clear p139
          try clear p17
          try clear p2
          try clear p6
          try clear q1
          try clear q13
          try clear q139
          try clear q17
          obtain ⟨x2_3,x6_3,x7_3,x36_3,rfl,rfl,HA,HK3,HO_2,HO_3,HO_7,BK132,HB⟩:=hrel
          cases gk with
          | zero=>exact absurd HA.out (by simp [impl_work.l2])
          | succ k3 =>
           have H:=HA.out
           clear HA
           simp only [impl_work.l2] at H
           by_cases c25 : x36_3 < (l0_0.length : Int)
           ·rw [if_pos c25] at H
            have c25b0 : decide (x36_3 < (l0_0.length : Int)) = true:=decide_eq_true c25
            clear c25
            by_cases c26 : 0 ≤ x36_3
            ·rw [if_pos c26] at H
             have c26b0 : decide (0 ≤ x36_3) = true:=decide_eq_true c26
             clear c26
             by_cases c27 : x36_3 < (l0_2.length : Int)
             ·rw [if_pos c27] at H
              have c27b0 : decide (x36_3 < (l0_2.length : Int)) = true:=decide_eq_true c27
              clear c27
              obtain ⟨bq28,hbq28⟩ : ∃ b_ : Bool,b_ = (rdOf false l0_2 x36_3):=⟨_,rfl⟩
              replace H : (if bq28 = true then (if x36_3 < (l0_0.length : Int) then (if (rd l0_0 x36_3) = (-1) then (if x36_3 < (l0_3.length : Int) then ((impl_can.f k3 (rd_L3 l0_3 x36_3) 1).bind fun t148=>(if x6_3 = true then (if x36_3 < (x2_3.length : Int) then (if x36_3 < (x7_3.length : Int) then (impl_work.l2 k3 (x2_3.set (x36_3 : Int).toNat 1) x3_2 (l0_0.length : Int) true (x7_3.set (x36_3 : Int).toNat t148) (l0_0.length : Int) (wrap64 (x36_3 + 1)) l0_0 l0_1 l0_2 l0_3) else (none)) else (none)) else (if x36_3 < (x2_3.length : Int) then (if 1 = (rd x2_3 x36_3) then (if x36_3 < (x3_2.length : Int) then (if x36_3 < (x7_3.length : Int) then (impl_work.l2 k3 (x2_3.set (x36_3 : Int).toNat 1) x3_2 (l0_0.length : Int) (t148 != (rd x3_2 x36_3)) (x7_3.set (x36_3 : Int).toNat t148) (l0_0.length : Int) (wrap64 (x36_3 + 1)) l0_0 l0_1 l0_2 l0_3) else (none)) else (none)) else (if x36_3 < (x7_3.length : Int) then (impl_work.l2 k3 (x2_3.set (x36_3 : Int).toNat 1) x3_2 (l0_0.length : Int) true (x7_3.set (x36_3 : Int).toNat t148) (l0_0.length : Int) (wrap64 (x36_3 + 1)) l0_0 l0_1 l0_2 l0_3) else (none))) else (none)))) else (none)) else (if 0 ≤ (rd l0_0 x36_3) then (if (rd l0_0 x36_3) < (x3_2.length : Int) then (if x36_3 < (l0_3.length : Int) then ((impl_can.f k3 (rd_L3 l0_3 x36_3) (mn (wrap64 ((rd x3_2 (rd l0_0 x36_3)) + 1)) 3)).bind fun t160=>(if x6_3 = true then (if x36_3 < (x2_3.length : Int) then (if x36_3 < (x7_3.length : Int) then (impl_work.l2 k3 (x2_3.set (x36_3 : Int).toNat (mn (wrap64 ((rd x3_2 (rd l0_0 x36_3)) + 1)) 3)) x3_2 (l0_0.length : Int) true (x7_3.set (x36_3 : Int).toNat t160) (l0_0.length : Int) (wrap64 (x36_3 + 1)) l0_0 l0_1 l0_2 l0_3) else (none)) else (none)) else (if x36_3 < (x2_3.length : Int) then (if (mn (wrap64 ((rd x3_2 (rd l0_0 x36_3)) + 1)) 3) = (rd x2_3 x36_3) then (if x36_3 < (x3_2.length : Int) then (if x36_3 < (x7_3.length : Int) then (impl_work.l2 k3 (x2_3.set (x36_3 : Int).toNat (mn (wrap64 ((rd x3_2 (rd l0_0 x36_3)) + 1)) 3)) x3_2 (l0_0.length : Int) (t160 != (rd x3_2 x36_3)) (x7_3.set (x36_3 : Int).toNat t160) (l0_0.length : Int) (wrap64 (x36_3 + 1)) l0_0 l0_1 l0_2 l0_3) else (none)) else (none)) else (if x36_3 < (x7_3.length : Int) then (impl_work.l2 k3 (x2_3.set (x36_3 : Int).toNat (mn (wrap64 ((rd x3_2 (rd l0_0 x36_3)) + 1)) 3)) x3_2 (l0_0.length : Int) true (x7_3.set (x36_3 : Int).toNat t160) (l0_0.length : Int) (wrap64 (x36_3 + 1)) l0_0 l0_1 l0_2 l0_3) else (none))) else (none)))) else (none)) else (none)) else (none))) else (none)) else (if x36_3 < (l0_3.length : Int) then ((impl_can.f k3 (rd_L3 l0_3 x36_3) 0).bind fun t170=>(if x6_3 = true then (if x36_3 < (x2_3.length : Int) then (if x36_3 < (x7_3.length : Int) then (impl_work.l2 k3 (x2_3.set (x36_3 : Int).toNat 0) x3_2 (l0_0.length : Int) true (x7_3.set (x36_3 : Int).toNat t170) (l0_0.length : Int) (wrap64 (x36_3 + 1)) l0_0 l0_1 l0_2 l0_3) else (none)) else (none)) else (if x36_3 < (x2_3.length : Int) then (if 0 = (rd x2_3 x36_3) then (if x36_3 < (x3_2.length : Int) then (if x36_3 < (x7_3.length : Int) then (impl_work.l2 k3 (x2_3.set (x36_3 : Int).toNat 0) x3_2 (l0_0.length : Int) (t170 != (rd x3_2 x36_3)) (x7_3.set (x36_3 : Int).toNat t170) (l0_0.length : Int) (wrap64 (x36_3 + 1)) l0_0 l0_1 l0_2 l0_3) else (none)) else (none)) else (if x36_3 < (x7_3.length : Int) then (impl_work.l2 k3 (x2_3.set (x36_3 : Int).toNat 0) x3_2 (l0_0.length : Int) true (x7_3.set (x36_3 : Int).toNat t170) (l0_0.length : Int) (wrap64 (x36_3 + 1)) l0_0 l0_1 l0_2 l0_3) else (none))) else (none)))) else (none))) = some (r1,r2):=by rw [← hbq28] at H;exact H
              have Nbq28:=zm hbq28
              clear hbq28
              by_cases c29 : bq28 = true
              ·subst c29
               have H1 : (if x36_3 < (l0_0.length : Int) then (if (rd l0_0 x36_3) = (-1) then (if x36_3 < (l0_3.length : Int) then ((impl_can.f k3 (rd_L3 l0_3 x36_3) 1).bind fun t148=>(if x6_3 = true then (if x36_3 < (x2_3.length : Int) then (if x36_3 < (x7_3.length : Int) then (impl_work.l2 k3 (x2_3.set (x36_3 : Int).toNat 1) x3_2 (l0_0.length : Int) true (x7_3.set (x36_3 : Int).toNat t148) (l0_0.length : Int) (wrap64 (x36_3 + 1)) l0_0 l0_1 l0_2 l0_3) else (none)) else (none)) else (if x36_3 < (x2_3.length : Int) then (if 1 = (rd x2_3 x36_3) then (if x36_3 < (x3_2.length : Int) then (if x36_3 < (x7_3.length : Int) then (impl_work.l2 k3 (x2_3.set (x36_3 : Int).toNat 1) x3_2 (l0_0.length : Int) (t148 != (rd x3_2 x36_3)) (x7_3.set (x36_3 : Int).toNat t148) (l0_0.length : Int) (wrap64 (x36_3 + 1)) l0_0 l0_1 l0_2 l0_3) else (none)) else (none)) else (if x36_3 < (x7_3.length : Int) then (impl_work.l2 k3 (x2_3.set (x36_3 : Int).toNat 1) x3_2 (l0_0.length : Int) true (x7_3.set (x36_3 : Int).toNat t148) (l0_0.length : Int) (wrap64 (x36_3 + 1)) l0_0 l0_1 l0_2 l0_3) else (none))) else (none)))) else (none)) else (if 0 ≤ (rd l0_0 x36_3) then (if (rd l0_0 x36_3) < (x3_2.length : Int) then (if x36_3 < (l0_3.length : Int) then ((impl_can.f k3 (rd_L3 l0_3 x36_3) (mn (wrap64 ((rd x3_2 (rd l0_0 x36_3)) + 1)) 3)).bind fun t160=>(if x6_3 = true then (if x36_3 < (x2_3.length : Int) then (if x36_3 < (x7_3.length : Int) then (impl_work.l2 k3 (x2_3.set (x36_3 : Int).toNat (mn (wrap64 ((rd x3_2 (rd l0_0 x36_3)) + 1)) 3)) x3_2 (l0_0.length : Int) true (x7_3.set (x36_3 : Int).toNat t160) (l0_0.length : Int) (wrap64 (x36_3 + 1)) l0_0 l0_1 l0_2 l0_3) else (none)) else (none)) else (if x36_3 < (x2_3.length : Int) then (if (mn (wrap64 ((rd x3_2 (rd l0_0 x36_3)) + 1)) 3) = (rd x2_3 x36_3) then (if x36_3 < (x3_2.length : Int) then (if x36_3 < (x7_3.length : Int) then (impl_work.l2 k3 (x2_3.set (x36_3 : Int).toNat (mn (wrap64 ((rd x3_2 (rd l0_0 x36_3)) + 1)) 3)) x3_2 (l0_0.length : Int) (t160 != (rd x3_2 x36_3)) (x7_3.set (x36_3 : Int).toNat t160) (l0_0.length : Int) (wrap64 (x36_3 + 1)) l0_0 l0_1 l0_2 l0_3) else (none)) else (none)) else (if x36_3 < (x7_3.length : Int) then (impl_work.l2 k3 (x2_3.set (x36_3 : Int).toNat (mn (wrap64 ((rd x3_2 (rd l0_0 x36_3)) + 1)) 3)) x3_2 (l0_0.length : Int) true (x7_3.set (x36_3 : Int).toNat t160) (l0_0.length : Int) (wrap64 (x36_3 + 1)) l0_0 l0_1 l0_2 l0_3) else (none))) else (none)))) else (none)) else (none)) else (none))) else (none)) = some (r1,r2):=by rw [if_pos rfl] at H;exact H
               clear H
               have H:=H1
               clear H1
               by_cases c30 : x36_3 < (l0_0.length : Int)
               ·rw [if_pos c30] at H
                have c30b0 : decide (x36_3 < (l0_0.length : Int)) = true:=decide_eq_true c30
                clear c30
                by_cases c31 : (rd l0_0 x36_3) = (-1)
                ·rw [if_pos c31] at H
                 have c31b0 : ((rd l0_0 x36_3) == (-1)) = true:=beq_iff_eq.mpr c31
                 have c31b1 : ((rd l0_0 x36_3) != (-1)) = false:=bne_eq_false_iff_eq.mpr c31
                 clear c31
                 by_cases c32 : x36_3 < (l0_3.length : Int)
                 ·rw [if_pos c32] at H
                  have c32b0 : decide (x36_3 < (l0_3.length : Int)) = true:=decide_eq_true c32
                  clear c32
                  replace H:=Option.bind_eq_some_iff.mp H
                  obtain ⟨t148,A330,H⟩:=H
                  replace H : (if x6_3 = true then (if x36_3 < (x2_3.length : Int) then (if x36_3 < (x7_3.length : Int) then (impl_work.l2 k3 (x2_3.set (x36_3 : Int).toNat 1) x3_2 (l0_0.length : Int) true (x7_3.set (x36_3 : Int).toNat t148) (l0_0.length : Int) (wrap64 (x36_3 + 1)) l0_0 l0_1 l0_2 l0_3) else (none)) else (none)) else (if x36_3 < (x2_3.length : Int) then (if 1 = (rd x2_3 x36_3) then (if x36_3 < (x3_2.length : Int) then (if x36_3 < (x7_3.length : Int) then (impl_work.l2 k3 (x2_3.set (x36_3 : Int).toNat 1) x3_2 (l0_0.length : Int) (t148 != (rd x3_2 x36_3)) (x7_3.set (x36_3 : Int).toNat t148) (l0_0.length : Int) (wrap64 (x36_3 + 1)) l0_0 l0_1 l0_2 l0_3) else (none)) else (none)) else (if x36_3 < (x7_3.length : Int) then (impl_work.l2 k3 (x2_3.set (x36_3 : Int).toNat 1) x3_2 (l0_0.length : Int) true (x7_3.set (x36_3 : Int).toNat t148) (l0_0.length : Int) (wrap64 (x36_3 + 1)) l0_0 l0_1 l0_2 l0_3) else (none))) else (none))) = some (r1,r2):=H
                  have A33:=zm A330
                  clear A330
                  by_cases c34 : x6_3 = true
                  ·subst c34
                   have H1 : (if x36_3 < (x2_3.length : Int) then (if x36_3 < (x7_3.length : Int) then (impl_work.l2 k3 (x2_3.set (x36_3 : Int).toNat 1) x3_2 (l0_0.length : Int) true (x7_3.set (x36_3 : Int).toNat t148) (l0_0.length : Int) (wrap64 (x36_3 + 1)) l0_0 l0_1 l0_2 l0_3) else (none)) else (none)) = some (r1,r2):=by rw [if_pos rfl] at H;exact H
                   clear H
                   have H:=H1
                   clear H1
                   by_cases c35 : x36_3 < (x2_3.length : Int)
                   ·rw [if_pos c35] at H
                    have c35b0 : decide (x36_3 < (x2_3.length : Int)) = true:=decide_eq_true c35
                    clear c35
                    obtain ⟨y149,hy149⟩ : ∃ y_ : List Int,y_ = (x2_3.set (x36_3 : Int).toNat 1):=⟨_,rfl⟩
                    replace H : (if x36_3 < (x7_3.length : Int) then (impl_work.l2 k3 y149 x3_2 (l0_0.length : Int) true (x7_3.set (x36_3 : Int).toNat t148) (l0_0.length : Int) (wrap64 (x36_3 + 1)) l0_0 l0_1 l0_2 l0_3) else (none)) = some (r1,r2):=by first|(rw [hy149];with_reducible exact H)|(have H2_:=(Option.bind_some _ _).symm.trans H;rw [hy149];with_reducible exact H2_)|(have H2_:=(Option.bind_some _ _).symm.trans H;with_reducible exact H2_)|with_reducible exact H|(rw [hy149];exact H)|exact H
                    have Ny149:=zm hy149
                    clear hy149
                    by_cases c37 : x36_3 < (x7_3.length : Int)
                    ·rw [if_pos c37] at H
                     have c37b0 : decide (x36_3 < (x7_3.length : Int)) = true:=decide_eq_true c37
                     clear c37
                     obtain ⟨y150,hy150⟩ : ∃ y_ : List Int,y_ = (x7_3.set (x36_3 : Int).toNat t148):=⟨_,rfl⟩
                     replace H : (impl_work.l2 k3 y149 x3_2 (l0_0.length : Int) true y150 (l0_0.length : Int) (wrap64 (x36_3 + 1)) l0_0 l0_1 l0_2 l0_3) = some (r1,r2):=by first|(rw [hy150];with_reducible exact H)|(have H2_:=(Option.bind_some _ _).symm.trans H;rw [hy150];with_reducible exact H2_)|(have H2_:=(Option.bind_some _ _).symm.trans H;with_reducible exact H2_)|with_reducible exact H|(rw [hy150];exact H)|exact H
                     have Ny150:=zm hy150
                     clear hy150
                     have H':=zm H
                     clear H
                     have hcz39_0 : wr.cell? ⟨gb132,0,none⟩ = some (.slice A0_0 l0_0.length c0_0):=(zD BK132.out 0).trans rfl
                     have hcz39_1 : wr.cell? ⟨gb132,1,none⟩ = some (.slice A0_1 l0_1.length c0_1):=(zD BK132.out 1).trans rfl
                     have hcz39_2 : wr.cell? ⟨gb132,2,none⟩ = some (.slice A0_2 l0_2.length c0_2):=(zD BK132.out 2).trans rfl
                     have hcz39_3 : wr.cell? ⟨gb132,3,none⟩ = some (.slice A0_3 l0_3.length c0_3):=(zD BK132.out 3).trans rfl
                     have hfz39_0:=zE BK132.out 0
                     have hfz39_1:=zE BK132.out 1
                     have hfz39_2:=zE BK132.out 2
                     have hfz39_3:=zE BK132.out 3
                     have p145 : 0 ≤ (x36_3 : Int):=of_decide_eq_true (by first|(with_reducible assumption)|assumption)
                     have q145 : x36_3 < (l0_2.length : Int):=of_decide_eq_true (by first|(with_reducible assumption)|assumption)
                     obtain ⟨ad145,e145,hx145_0⟩:=Kd.at_bool HR0_2.out x36_3 p145 q145
                     (try rw [← Nbq28.out] at hx145_0)
                     cases e145
                     replace hx145_0:=(HB.out.cell (World.block_lt_of_cell? w _ hx145_0)).trans hx145_0
                     replace p145:=eq_true p145
                     replace q145:=eq_true q145
                     have p146 : 0 ≤ (x36_3 : Int):=of_decide_eq_true (by first|(with_reducible assumption)|assumption)
                     have q146 : x36_3 < (l0_0.length : Int):=of_decide_eq_true (by first|(with_reducible assumption)|assumption)
                     obtain ⟨ad146,e146,hx146_0⟩:=Kd.at_int HR0_0.out x36_3 p146 q146
                     cases e146
                     replace hx146_0:=(HB.out.cell (World.block_lt_of_cell? w _ hx146_0)).trans hx146_0
                     replace p146:=eq_true p146
                     replace q146:=eq_true q146
                     have p147 : 0 ≤ (x36_3 : Int):=of_decide_eq_true (by first|(with_reducible assumption)|assumption)
                     have q147 : x36_3 < (l0_3.length : Int):=of_decide_eq_true (by first|(with_reducible assumption)|assumption)
                     obtain ⟨ad147,A147_0,c147_0,e147,hx147_0,hl147_0,hi147_0⟩:=at_L3 HR0_3.out x36_3 p147 q147
                     cases e147
                     replace hx147_0:=(HB.out.cell (World.block_lt_of_cell? w _ hx147_0)).trans hx147_0
                     have HR147_0:=zm hi147_0
                     have HC147_0:=zm hl147_0
                     clear hi147_0 hl147_0
                     replace p147:=eq_true p147
                     replace q147:=eq_true q147
                     go_wp2_with (first|((with_reducible refine gate_callee (f:=20) rfl ?_);refine goesL_ (some 69) rfl rfl Try.func20 (by kernel_rfl) rfl #[.slice A147_0 (rd_L3 l0_3 x36_3).length c147_0,.int .i64 1] rfl (by (try simp only [List.map_toArray,List.map_cons,List.map_nil]);first|done|rfl|(simp only [List.length_drop,List.length_take];rfl)) ?_;(with_reducible refine (impl_can.calls k3 _ _ (rd_L3 l0_3 x36_3) 1 t148 _ ?side1 ?side2 A33.out).mono ?_);(case side1=>repeat (first|exact (zY HR147_0.out HB.out)|(with_reducible refine zT ?_ _)|(with_reducible refine zU ?_ _)|(with_reducible refine zV ?_)));(case side2=>exact HC147_0.out);rintro e w' ⟨rfl,⟨nd,rfl⟩⟩;refine ⟨_,rfl,?_⟩;(try (rw [drewN_self wr];generalize hq_ : World.drewN wr _ = wr;have n0_ : Aside0 (Kd.R (Kd.int .i64) 3 wr w.heap.size (fun k_=>some k_ ≠ (.slice Ao23 x3_2.length co23 : Value).ownBlock∧some k_ ≠ (v143 : Value).ownBlock) v134 x2_3):=⟨by rw [← hq_];exact (by (with_reducible repeat (first|apply zP|apply zQ|apply zR));exact HO_2.out)⟩;have n1_ : Aside0 (Kd.R (Kd.int .i64) 3 wr w.heap.size (fun k_=>some k_ ≠ (v134 : Value).ownBlock∧some k_ ≠ (v143 : Value).ownBlock) (.slice Ao23 x3_2.length co23) x3_2):=⟨by rw [← hq_];exact (by (with_reducible repeat (first|apply zP|apply zQ|apply zR));exact HO_3.out)⟩;have n2_ : Aside0 (Kd.R (Kd.int .i64) 3 wr w.heap.size (fun k_=>some k_ ≠ (v134 : Value).ownBlock∧some k_ ≠ (.slice Ao23 x3_2.length co23 : Value).ownBlock) v143 x7_3):=⟨by rw [← hq_];exact (by (with_reducible repeat (first|apply zP|apply zQ|apply zR));exact HO_7.out)⟩;have n3_ : Aside0 (wr.heap[gb132]? = some (.cells #[.slice (some ad146) l0_0.length c0_0,.slice A0_1 l0_1.length c0_1,.slice (some ad145) l0_2.length c0_2,.slice (some ad147) l0_3.length c0_3] 29 (0,0))):=⟨by rw [← hq_];exact (by (with_reducible repeat (first|refine zH ?_ _|refine zI ?_|refine zG ?_ _));exact BK132.out)⟩;have n4_ : Aside0 (Below w.heap.size w wr):=⟨by rw [← hq_];exact (by repeat (first|(with_reducible first|exact HB.out|apply zA|apply zB|apply zC|refine zF ?_ GE132.out)|exact HB.out))⟩;clear HO_2 HO_3 HO_7 BK132 HB hq_;have HO_2:=n0_;have HO_3:=n1_;have HO_7:=n2_;have BK132:=n3_;have HB:=n4_;clear n0_ n1_ n2_ n3_ n4_));have p36 : 0 ≤ (x36_3 : Int):=of_decide_eq_true (by first|(with_reducible assumption)|assumption);have q36 : (x36_3 : Int) < ((x2_3.length : Int) : Int):=of_decide_eq_true (by first|(with_reducible assumption)|assumption);obtain ⟨go36,co36,eo36,gb36,gl36,cl36,HG36⟩:=Kd.R_form HO_2.out (by omega);(first|cases eo36|(injection eo36 with ea_ en_ ec_;(first|subst ea_|(injection ea_ with ea_;subst ea_));subst ec_;clear en_));have GB36:=zm gb36;have GG36:=zm HG36;clear gb36 gl36 HG36;obtain ⟨hx36_0,hf36_0⟩:=Kd.R_celln 0 HO_2.out (x36_3 : Int) p36 q36;replace p36:=eq_true p36;replace q36:=eq_true q36;obtain ⟨hy40_,hz40_⟩:=Kd.R_celln 0 HO_2.out (x36_3 : Int) (of_decide_eq_true (by first|(with_reducible assumption)|assumption)) (of_decide_eq_true (by first|(with_reducible assumption)|assumption));have HP40:=Kd.R_putg HO_2.out (x36_3 : Int) 1)|((with_reducible refine gate_store (t:=3) (p:=93) rfl ?_);refine store_event (t:=3) (p:=93) (v:=?vo_w41) (w1:=(wr.setCell ⟨go36,(x36_3 : Int).toNat,none⟩ (.int .i64 1))) ?hg ?ho ?hn ?hr ?_;(case ho=>rfl);(case hg=>rfl);(case hn=>rfl);(case hr=>first|(go_simp;done)|(go_simp;rfl));intro w41 hw;have hg : wr.grownBy w41 (some go36):=(by rw [hw];exact HP40.2);have hp_ : Kd.R (Kd.int .i64) 3 w41 w.heap.size (fun k_=>some k_ ≠ (.slice Ao23 x3_2.length co23 : Value).ownBlock∧some k_ ≠ (v143 : Value).ownBlock) (.slice (some ⟨go36,0,none⟩) x2_3.length co36) y149:=(by rw [hw,Ny149.out];exact HP40.1);clear HP40;have n0_:=zm (hp_);have n1_:=zm (Kd.R_after (v:=(.slice (some ⟨go36,0,none⟩) x2_3.length co36)) (v1:=(.slice (some ⟨go36,0,none⟩) x2_3.length co36)) (ok:=(fun k_=>some k_ ≠ (v143 : Value).ownBlock)) (by (with_reducible repeat (first|apply zP|apply zQ|apply zR));exact zS HO_3.out (fun _ hk=>⟨hk.2,hk.1⟩)) hg (.inl rfl));have n2_:=zm (Kd.R_after (v:=(.slice (some ⟨go36,0,none⟩) x2_3.length co36)) (v1:=(.slice (some ⟨go36,0,none⟩) x2_3.length co36)) (ok:=(fun k_=>some k_ ≠ (.slice Ao23 x3_2.length co23 : Value).ownBlock)) (by (with_reducible repeat (first|apply zP|apply zQ|apply zR));exact zS HO_7.out (fun _ hk=>⟨hk.2,hk.1⟩)) hg (.inl rfl));have n3_:=zm (blk_grown (g:=gb132) (o:=.cells #[.slice (some ad146) l0_0.length c0_0,.slice A0_1 l0_1.length c0_1,.slice (some ad145) l0_2.length c0_2,.slice (some ad147) l0_3.length c0_3] 29 (0,0)) (by (with_reducible repeat (first|refine zH ?_ _|refine zI ?_|refine zG ?_ _));exact BK132.out) hg (Kd.R_ne HO_2.out BK132.out (by decide)));have n4_:=zm ((by rw [hw];exact zF (HB.out) GB36.out : Below w.heap.size w w41));clear HO_2;clear HO_3;clear HO_7;clear BK132;clear HB;have HO_2:=n0_;have HO_3:=n1_;have HO_7:=n2_;have BK132:=n3_;have HB:=n4_;clear n0_ n1_ n2_ n3_ n4_;clear hg hw hp_;have p38 : 0 ≤ (x36_3 : Int):=of_decide_eq_true (by first|(with_reducible assumption)|assumption);have q38 : (x36_3 : Int) < ((x7_3.length : Int) : Int):=of_decide_eq_true (by first|(with_reducible assumption)|assumption);obtain ⟨go38,co38,eo38,gb38,gl38,cl38,HG38⟩:=Kd.R_form HO_7.out (by omega);(first|cases eo38|(injection eo38 with ea_ en_ ec_;(first|subst ea_|(injection ea_ with ea_;subst ea_));subst ec_;clear en_));have GB38:=zm gb38;have GG38:=zm HG38;clear gb38 gl38 HG38;obtain ⟨hx38_0,hf38_0⟩:=Kd.R_celln 0 HO_7.out (x36_3 : Int) p38 q38;replace p38:=eq_true p38;replace q38:=eq_true q38;obtain ⟨hy42_,hz42_⟩:=Kd.R_celln 0 HO_7.out (x36_3 : Int) (of_decide_eq_true (by first|(with_reducible assumption)|assumption)) (of_decide_eq_true (by first|(with_reducible assumption)|assumption));have HP42:=Kd.R_putg HO_7.out (x36_3 : Int) t148)|((with_reducible refine gate_store (t:=3) (p:=94) rfl ?_);refine store_event (t:=3) (p:=94) (v:=?vo_w43) (w1:=(w41.setCell ⟨go38,(x36_3 : Int).toNat,none⟩ (.int .i64 t148))) ?hg ?ho ?hn ?hr ?_;(case ho=>rfl);(case hg=>rfl);(case hn=>rfl);(case hr=>first|(go_simp;done)|(go_simp;rfl));intro w43 hw;have hg : w41.grownBy w43 (some go38):=(by rw [hw];exact HP42.2);have hp_ : Kd.R (Kd.int .i64) 3 w43 w.heap.size (fun k_=>some k_ ≠ (.slice Ao23 x3_2.length co23 : Value).ownBlock∧some k_ ≠ (.slice (some ⟨go36,0,none⟩) x2_3.length co36 : Value).ownBlock) (.slice (some ⟨go38,0,none⟩) x7_3.length co38) y150:=(by rw [hw,Ny150.out];exact HP42.1);clear HP42;have n0_:=zm (Kd.R_after (v:=(.slice (some ⟨go38,0,none⟩) x7_3.length co38)) (v1:=(.slice (some ⟨go38,0,none⟩) x7_3.length co38)) (ok:=(fun k_=>some k_ ≠ (.slice Ao23 x3_2.length co23 : Value).ownBlock)) (by (with_reducible repeat (first|apply zP|apply zQ|apply zR));exact HO_2.out) hg (.inl rfl));have n1_:=zm (Kd.R_after (v:=(.slice (some ⟨go38,0,none⟩) x7_3.length co38)) (v1:=(.slice (some ⟨go38,0,none⟩) x7_3.length co38)) (ok:=(fun k_=>some k_ ≠ (.slice (some ⟨go36,0,none⟩) x2_3.length co36 : Value).ownBlock)) (by (with_reducible repeat (first|apply zP|apply zQ|apply zR));exact zS HO_3.out (fun _ hk=>⟨hk.2,hk.1⟩)) hg (.inl rfl));have n2_:=zm (hp_);have n3_:=zm (blk_grown (g:=gb132) (o:=.cells #[.slice (some ad146) l0_0.length c0_0,.slice A0_1 l0_1.length c0_1,.slice (some ad145) l0_2.length c0_2,.slice (some ad147) l0_3.length c0_3] 29 (0,0)) (by (with_reducible repeat (first|refine zH ?_ _|refine zI ?_|refine zG ?_ _));exact BK132.out) hg (Kd.R_ne HO_7.out BK132.out (by decide)));have n4_:=zm ((by rw [hw];exact zF (HB.out) GB38.out : Below w.heap.size w w43));clear HO_2;clear HO_3;clear HO_7;clear BK132;clear HB;have HO_2:=n0_;have HO_3:=n1_;have HO_7:=n2_;have BK132:=n3_;have HB:=n4_;clear n0_ n1_ n2_ n3_ n4_;clear hg hw hp_))
                     go_roundg k3
                     case measure=>have:=HK1.out;have:=HK2.out;have:=HK3.out;omega
                     case rel=>exact ⟨(y149),(true),(y150),(wrap64 (x36_3 + 1)),(by first|rfl|(simp;done)|(simp [*];done)),(by first|rfl|(simp;done)|(simp [*];done)),H',⟨by have:=HK1.out;have:=HK2.out;have:=HK3.out;omega⟩,⟨by (with_reducible repeat (first|apply zP|apply zQ|apply zR));exact HO_2.out⟩,⟨by (with_reducible repeat (first|apply zP|apply zQ|apply zR));exact HO_3.out⟩,⟨by (with_reducible repeat (first|apply zP|apply zQ|apply zR));exact zS HO_7.out (fun _ hk=>⟨hk.2,hk.1⟩)⟩,⟨by (with_reducible repeat (first|refine zH ?_ _|refine zI ?_|refine zG ?_ _));exact BK132.out⟩,⟨by repeat (first|(with_reducible first|exact HB.out|apply zA|apply zB|apply zC|refine zF ?_ GE132.out)|exact HB.out)⟩⟩
                    ·rw [if_neg c37] at H
                     exact absurd H (by simp)
                   ·rw [if_neg c35] at H
                    exact absurd H (by simp)
                  ·replace c34:=Bool.eq_false_iff.mpr c34
                   subst c34
                   have H1 : (if x36_3 < (x2_3.length : Int) then (if 1 = (rd x2_3 x36_3) then (if x36_3 < (x3_2.length : Int) then (if x36_3 < (x7_3.length : Int) then (impl_work.l2 k3 (x2_3.set (x36_3 : Int).toNat 1) x3_2 (l0_0.length : Int) (t148 != (rd x3_2 x36_3)) (x7_3.set (x36_3 : Int).toNat t148) (l0_0.length : Int) (wrap64 (x36_3 + 1)) l0_0 l0_1 l0_2 l0_3) else (none)) else (none)) else (if x36_3 < (x7_3.length : Int) then (impl_work.l2 k3 (x2_3.set (x36_3 : Int).toNat 1) x3_2 (l0_0.length : Int) true (x7_3.set (x36_3 : Int).toNat t148) (l0_0.length : Int) (wrap64 (x36_3 + 1)) l0_0 l0_1 l0_2 l0_3) else (none))) else (none)) = some (r1,r2):=by rw [if_neg (show ¬ (false = true) by decide)] at H;exact H
                   clear H
                   have H:=H1
                   clear H1
                   by_cases c44 : x36_3 < (x2_3.length : Int)
                   ·rw [if_pos c44] at H
                    have c44b0 : decide (x36_3 < (x2_3.length : Int)) = true:=decide_eq_true c44
                    clear c44
                    by_cases c45 : 1 = (rd x2_3 x36_3)
                    ·rw [if_pos c45] at H
                     have c45b0 : (1 == (rd x2_3 x36_3)) = true:=beq_iff_eq.mpr c45
                     have c45b1 : (1 != (rd x2_3 x36_3)) = false:=bne_eq_false_iff_eq.mpr c45
                     clear c45
                     by_cases c46 : x36_3 < (x3_2.length : Int)
                     ·rw [if_pos c46] at H
                      have c46b0 : decide (x36_3 < (x3_2.length : Int)) = true:=decide_eq_true c46
                      clear c46
                      obtain ⟨y153,hy153⟩ : ∃ y_ : List Int,y_ = (x2_3.set (x36_3 : Int).toNat 1):=⟨_,rfl⟩
                      replace H : (if x36_3 < (x7_3.length : Int) then (impl_work.l2 k3 y153 x3_2 (l0_0.length : Int) (t148 != (rd x3_2 x36_3)) (x7_3.set (x36_3 : Int).toNat t148) (l0_0.length : Int) (wrap64 (x36_3 + 1)) l0_0 l0_1 l0_2 l0_3) else (none)) = some (r1,r2):=by first|(rw [hy153];with_reducible exact H)|(have H2_:=(Option.bind_some _ _).symm.trans H;rw [hy153];with_reducible exact H2_)|(have H2_:=(Option.bind_some _ _).symm.trans H;with_reducible exact H2_)|with_reducible exact H|(rw [hy153];exact H)|exact H
                      have Ny153:=zm hy153
                      clear hy153
                      by_cases c48 : x36_3 < (x7_3.length : Int)
                      ·rw [if_pos c48] at H
                       have c48b0 : decide (x36_3 < (x7_3.length : Int)) = true:=decide_eq_true c48
                       clear c48
                       obtain ⟨y154,hy154⟩ : ∃ y_ : List Int,y_ = (x7_3.set (x36_3 : Int).toNat t148):=⟨_,rfl⟩
                       replace H : (impl_work.l2 k3 y153 x3_2 (l0_0.length : Int) (t148 != (rd x3_2 x36_3)) y154 (l0_0.length : Int) (wrap64 (x36_3 + 1)) l0_0 l0_1 l0_2 l0_3) = some (r1,r2):=by first|(rw [hy154];with_reducible exact H)|(have H2_:=(Option.bind_some _ _).symm.trans H;rw [hy154];with_reducible exact H2_)|(have H2_:=(Option.bind_some _ _).symm.trans H;with_reducible exact H2_)|with_reducible exact H|(rw [hy154];exact H)|exact H
                       have Ny154:=zm hy154
                       clear hy154
                       have H':=zm H
                       clear H
                       have hcz50_0 : wr.cell? ⟨gb132,0,none⟩ = some (.slice A0_0 l0_0.length c0_0):=(zD BK132.out 0).trans rfl
                       have hcz50_1 : wr.cell? ⟨gb132,1,none⟩ = some (.slice A0_1 l0_1.length c0_1):=(zD BK132.out 1).trans rfl
                       have hcz50_2 : wr.cell? ⟨gb132,2,none⟩ = some (.slice A0_2 l0_2.length c0_2):=(zD BK132.out 2).trans rfl
                       have hcz50_3 : wr.cell? ⟨gb132,3,none⟩ = some (.slice A0_3 l0_3.length c0_3):=(zD BK132.out 3).trans rfl
                       have hfz50_0:=zE BK132.out 0
                       have hfz50_1:=zE BK132.out 1
                       have hfz50_2:=zE BK132.out 2
                       have hfz50_3:=zE BK132.out 3
                       have p145 : 0 ≤ (x36_3 : Int):=of_decide_eq_true (by first|(with_reducible assumption)|assumption)
                       have q145 : x36_3 < (l0_2.length : Int):=of_decide_eq_true (by first|(with_reducible assumption)|assumption)
                       obtain ⟨ad145,e145,hx145_0⟩:=Kd.at_bool HR0_2.out x36_3 p145 q145
                       (try rw [← Nbq28.out] at hx145_0)
                       cases e145
                       replace hx145_0:=(HB.out.cell (World.block_lt_of_cell? w _ hx145_0)).trans hx145_0
                       replace p145:=eq_true p145
                       replace q145:=eq_true q145
                       have p146 : 0 ≤ (x36_3 : Int):=of_decide_eq_true (by first|(with_reducible assumption)|assumption)
                       have q146 : x36_3 < (l0_0.length : Int):=of_decide_eq_true (by first|(with_reducible assumption)|assumption)
                       obtain ⟨ad146,e146,hx146_0⟩:=Kd.at_int HR0_0.out x36_3 p146 q146
                       cases e146
                       replace hx146_0:=(HB.out.cell (World.block_lt_of_cell? w _ hx146_0)).trans hx146_0
                       replace p146:=eq_true p146
                       replace q146:=eq_true q146
                       have p147 : 0 ≤ (x36_3 : Int):=of_decide_eq_true (by first|(with_reducible assumption)|assumption)
                       have q147 : x36_3 < (l0_3.length : Int):=of_decide_eq_true (by first|(with_reducible assumption)|assumption)
                       obtain ⟨ad147,A147_0,c147_0,e147,hx147_0,hl147_0,hi147_0⟩:=at_L3 HR0_3.out x36_3 p147 q147
                       cases e147
                       replace hx147_0:=(HB.out.cell (World.block_lt_of_cell? w _ hx147_0)).trans hx147_0
                       have HR147_0:=zm hi147_0
                       have HC147_0:=zm hl147_0
                       clear hi147_0 hl147_0
                       replace p147:=eq_true p147
                       replace q147:=eq_true q147
                       go_wp2_with (first|((with_reducible refine gate_callee (f:=20) rfl ?_);refine goesL_ (some 69) rfl rfl Try.func20 (by kernel_rfl) rfl #[.slice A147_0 (rd_L3 l0_3 x36_3).length c147_0,.int .i64 1] rfl (by (try simp only [List.map_toArray,List.map_cons,List.map_nil]);first|done|rfl|(simp only [List.length_drop,List.length_take];rfl)) ?_;(with_reducible refine (impl_can.calls k3 _ _ (rd_L3 l0_3 x36_3) 1 t148 _ ?side1 ?side2 A33.out).mono ?_);(case side1=>repeat (first|exact (zY HR147_0.out HB.out)|(with_reducible refine zT ?_ _)|(with_reducible refine zU ?_ _)|(with_reducible refine zV ?_)));(case side2=>exact HC147_0.out);rintro e w' ⟨rfl,⟨nd,rfl⟩⟩;refine ⟨_,rfl,?_⟩;(try (rw [drewN_self wr];generalize hq_ : World.drewN wr _ = wr;have n0_ : Aside0 (Kd.R (Kd.int .i64) 3 wr w.heap.size (fun k_=>some k_ ≠ (.slice Ao23 x3_2.length co23 : Value).ownBlock∧some k_ ≠ (v143 : Value).ownBlock) v134 x2_3):=⟨by rw [← hq_];exact (by (with_reducible repeat (first|apply zP|apply zQ|apply zR));exact HO_2.out)⟩;have n1_ : Aside0 (Kd.R (Kd.int .i64) 3 wr w.heap.size (fun k_=>some k_ ≠ (v134 : Value).ownBlock∧some k_ ≠ (v143 : Value).ownBlock) (.slice Ao23 x3_2.length co23) x3_2):=⟨by rw [← hq_];exact (by (with_reducible repeat (first|apply zP|apply zQ|apply zR));exact HO_3.out)⟩;have n2_ : Aside0 (Kd.R (Kd.int .i64) 3 wr w.heap.size (fun k_=>some k_ ≠ (v134 : Value).ownBlock∧some k_ ≠ (.slice Ao23 x3_2.length co23 : Value).ownBlock) v143 x7_3):=⟨by rw [← hq_];exact (by (with_reducible repeat (first|apply zP|apply zQ|apply zR));exact HO_7.out)⟩;have n3_ : Aside0 (wr.heap[gb132]? = some (.cells #[.slice (some ad146) l0_0.length c0_0,.slice A0_1 l0_1.length c0_1,.slice (some ad145) l0_2.length c0_2,.slice (some ad147) l0_3.length c0_3] 29 (0,0))):=⟨by rw [← hq_];exact (by (with_reducible repeat (first|refine zH ?_ _|refine zI ?_|refine zG ?_ _));exact BK132.out)⟩;have n4_ : Aside0 (Below w.heap.size w wr):=⟨by rw [← hq_];exact (by repeat (first|(with_reducible first|exact HB.out|apply zA|apply zB|apply zC|refine zF ?_ GE132.out)|exact HB.out))⟩;clear HO_2 HO_3 HO_7 BK132 HB hq_;have HO_2:=n0_;have HO_3:=n1_;have HO_7:=n2_;have BK132:=n3_;have HB:=n4_;clear n0_ n1_ n2_ n3_ n4_));obtain ⟨Ao51,co51,eo51⟩:=zAb HO_2.out;subst eo51;have p151 : 0 ≤ (x36_3 : Int):=of_decide_eq_true (by first|(with_reducible assumption)|assumption);have q151 : x36_3 < (x2_3.length : Int):=of_decide_eq_true (by first|(with_reducible assumption)|assumption);obtain ⟨ad151,e151,hx151_0⟩:=Kd.at_int (zW HO_2.out).2.2 x36_3 p151 q151;cases e151;replace p151:=eq_true p151;replace q151:=eq_true q151;have p152 : 0 ≤ (x36_3 : Int):=of_decide_eq_true (by first|(with_reducible assumption)|assumption);have q152 : x36_3 < (x3_2.length : Int):=of_decide_eq_true (by first|(with_reducible assumption)|assumption);obtain ⟨ad152,e152,hx152_0⟩:=Kd.at_int (zW HO_3.out).2.2 x36_3 p152 q152;cases e152;replace p152:=eq_true p152;replace q152:=eq_true q152;have p47 : 0 ≤ (x36_3 : Int):=of_decide_eq_true (by first|(with_reducible assumption)|assumption);have q47 : (x36_3 : Int) < ((x2_3.length : Int) : Int):=of_decide_eq_true (by first|(with_reducible assumption)|assumption);obtain ⟨go47,co47,eo47,gb47,gl47,cl47,HG47⟩:=Kd.R_form HO_2.out (by omega);(first|cases eo47|(injection eo47 with ea_ en_ ec_;(first|subst ea_|(injection ea_ with ea_;subst ea_));subst ec_;clear en_));have GB47:=zm gb47;have GG47:=zm HG47;clear gb47 gl47 HG47;(first|simp only [add_plain] at hx151_0|skip);obtain ⟨hx47_0,hf47_0⟩:=Kd.R_celln 0 HO_2.out (x36_3 : Int) p47 q47;replace p47:=eq_true p47;replace q47:=eq_true q47;obtain ⟨hy52_,hz52_⟩:=Kd.R_celln 0 HO_2.out (x36_3 : Int) (of_decide_eq_true (by first|(with_reducible assumption)|assumption)) (of_decide_eq_true (by first|(with_reducible assumption)|assumption));have HP52:=Kd.R_putg HO_2.out (x36_3 : Int) 1)|((with_reducible refine gate_store (t:=3) (p:=93) rfl ?_);refine store_event (t:=3) (p:=93) (v:=?vo_w53) (w1:=(wr.setCell ⟨go47,(x36_3 : Int).toNat,none⟩ (.int .i64 1))) ?hg ?ho ?hn ?hr ?_;(case ho=>rfl);(case hg=>rfl);(case hn=>rfl);(case hr=>first|(go_simp;done)|(go_simp;rfl));intro w53 hw;have hg : wr.grownBy w53 (some go47):=(by rw [hw];exact HP52.2);have hp_ : Kd.R (Kd.int .i64) 3 w53 w.heap.size (fun k_=>some k_ ≠ (.slice (some ad152) x3_2.length co23 : Value).ownBlock∧some k_ ≠ (v143 : Value).ownBlock) (.slice (some ⟨go47,0,none⟩) x2_3.length co51) y153:=(by rw [hw,Ny153.out];exact HP52.1);clear HP52;have n0_:=zm (hp_);have n1_:=zm (Kd.R_after (v:=(.slice (some ⟨go47,0,none⟩) x2_3.length co51)) (v1:=(.slice (some ⟨go47,0,none⟩) x2_3.length co51)) (ok:=(fun k_=>some k_ ≠ (v143 : Value).ownBlock)) (by (with_reducible repeat (first|apply zP|apply zQ|apply zR));exact zS HO_3.out (fun _ hk=>⟨hk.2,hk.1⟩)) hg (.inl rfl));have n2_:=zm (Kd.R_after (v:=(.slice (some ⟨go47,0,none⟩) x2_3.length co51)) (v1:=(.slice (some ⟨go47,0,none⟩) x2_3.length co51)) (ok:=(fun k_=>some k_ ≠ (.slice (some ad152) x3_2.length co23 : Value).ownBlock)) (by (with_reducible repeat (first|apply zP|apply zQ|apply zR));exact zS HO_7.out (fun _ hk=>⟨hk.2,hk.1⟩)) hg (.inl rfl));have n3_:=zm (blk_grown (g:=gb132) (o:=.cells #[.slice (some ad146) l0_0.length c0_0,.slice A0_1 l0_1.length c0_1,.slice (some ad145) l0_2.length c0_2,.slice (some ad147) l0_3.length c0_3] 29 (0,0)) (by (with_reducible repeat (first|refine zH ?_ _|refine zI ?_|refine zG ?_ _));exact BK132.out) hg (Kd.R_ne HO_2.out BK132.out (by decide)));have n4_:=zm ((by rw [hw];exact zF (HB.out) GB47.out : Below w.heap.size w w53));clear HO_2;clear HO_3;clear HO_7;clear BK132;clear HB;have HO_2:=n0_;have HO_3:=n1_;have HO_7:=n2_;have BK132:=n3_;have HB:=n4_;clear n0_ n1_ n2_ n3_ n4_;clear hg hw hp_;have p49 : 0 ≤ (x36_3 : Int):=of_decide_eq_true (by first|(with_reducible assumption)|assumption);have q49 : (x36_3 : Int) < ((x7_3.length : Int) : Int):=of_decide_eq_true (by first|(with_reducible assumption)|assumption);obtain ⟨go49,co49,eo49,gb49,gl49,cl49,HG49⟩:=Kd.R_form HO_7.out (by omega);(first|cases eo49|(injection eo49 with ea_ en_ ec_;(first|subst ea_|(injection ea_ with ea_;subst ea_));subst ec_;clear en_));have GB49:=zm gb49;have GG49:=zm HG49;clear gb49 gl49 HG49;obtain ⟨hx49_0,hf49_0⟩:=Kd.R_celln 0 HO_7.out (x36_3 : Int) p49 q49;replace p49:=eq_true p49;replace q49:=eq_true q49;obtain ⟨hy54_,hz54_⟩:=Kd.R_celln 0 HO_7.out (x36_3 : Int) (of_decide_eq_true (by first|(with_reducible assumption)|assumption)) (of_decide_eq_true (by first|(with_reducible assumption)|assumption));have HP54:=Kd.R_putg HO_7.out (x36_3 : Int) t148)|((with_reducible refine gate_store (t:=3) (p:=94) rfl ?_);refine store_event (t:=3) (p:=94) (v:=?vo_w55) (w1:=(w53.setCell ⟨go49,(x36_3 : Int).toNat,none⟩ (.int .i64 t148))) ?hg ?ho ?hn ?hr ?_;(case ho=>rfl);(case hg=>rfl);(case hn=>rfl);(case hr=>first|(go_simp;done)|(go_simp;rfl));intro w55 hw;have hg : w53.grownBy w55 (some go49):=(by rw [hw];exact HP54.2);have hp_ : Kd.R (Kd.int .i64) 3 w55 w.heap.size (fun k_=>some k_ ≠ (.slice (some ad152) x3_2.length co23 : Value).ownBlock∧some k_ ≠ (.slice (some ⟨go47,0,none⟩) x2_3.length co51 : Value).ownBlock) (.slice (some ⟨go49,0,none⟩) x7_3.length co49) y154:=(by rw [hw,Ny154.out];exact HP54.1);clear HP54;have n0_:=zm (Kd.R_after (v:=(.slice (some ⟨go49,0,none⟩) x7_3.length co49)) (v1:=(.slice (some ⟨go49,0,none⟩) x7_3.length co49)) (ok:=(fun k_=>some k_ ≠ (.slice (some ad152) x3_2.length co23 : Value).ownBlock)) (by (with_reducible repeat (first|apply zP|apply zQ|apply zR));exact HO_2.out) hg (.inl rfl));have n1_:=zm (Kd.R_after (v:=(.slice (some ⟨go49,0,none⟩) x7_3.length co49)) (v1:=(.slice (some ⟨go49,0,none⟩) x7_3.length co49)) (ok:=(fun k_=>some k_ ≠ (.slice (some ⟨go47,0,none⟩) x2_3.length co51 : Value).ownBlock)) (by (with_reducible repeat (first|apply zP|apply zQ|apply zR));exact zS HO_3.out (fun _ hk=>⟨hk.2,hk.1⟩)) hg (.inl rfl));have n2_:=zm (hp_);have n3_:=zm (blk_grown (g:=gb132) (o:=.cells #[.slice (some ad146) l0_0.length c0_0,.slice A0_1 l0_1.length c0_1,.slice (some ad145) l0_2.length c0_2,.slice (some ad147) l0_3.length c0_3] 29 (0,0)) (by (with_reducible repeat (first|refine zH ?_ _|refine zI ?_|refine zG ?_ _));exact BK132.out) hg (Kd.R_ne HO_7.out BK132.out (by decide)));have n4_:=zm ((by rw [hw];exact zF (HB.out) GB49.out : Below w.heap.size w w55));clear HO_2;clear HO_3;clear HO_7;clear BK132;clear HB;have HO_2:=n0_;have HO_3:=n1_;have HO_7:=n2_;have BK132:=n3_;have HB:=n4_;clear n0_ n1_ n2_ n3_ n4_;clear hg hw hp_))
                       go_roundg k3
                       case measure=>have:=HK1.out;have:=HK2.out;have:=HK3.out;omega
                       case rel=>exact ⟨(y153),((t148 != (rd x3_2 x36_3))),(y154),(wrap64 (x36_3 + 1)),(by first|rfl|(simp;done)|(simp [*];done)),(by first|rfl|(simp;done)|(simp [*];done)),H',⟨by have:=HK1.out;have:=HK2.out;have:=HK3.out;omega⟩,⟨by (with_reducible repeat (first|apply zP|apply zQ|apply zR));exact HO_2.out⟩,⟨by (with_reducible repeat (first|apply zP|apply zQ|apply zR));exact HO_3.out⟩,⟨by (with_reducible repeat (first|apply zP|apply zQ|apply zR));exact zS HO_7.out (fun _ hk=>⟨hk.2,hk.1⟩)⟩,⟨by (with_reducible repeat (first|refine zH ?_ _|refine zI ?_|refine zG ?_ _));exact BK132.out⟩,⟨by repeat (first|(with_reducible first|exact HB.out|apply zA|apply zB|apply zC|refine zF ?_ GE132.out)|exact HB.out)⟩⟩
                      ·rw [if_neg c48] at H
                       exact absurd H (by simp)
                     ·rw [if_neg c46] at H
                      exact absurd H (by simp)
                    ·rw [if_neg c45] at H
                     have c45b0 : (1 == (rd x2_3 x36_3)) = false:=beq_eq_false_iff_ne.mpr c45
                     have c45b1 : (1 != (rd x2_3 x36_3)) = true:=bne_iff_ne.mpr c45
                     obtain ⟨y155,hy155⟩ : ∃ y_ : List Int,y_ = (x2_3.set (x36_3 : Int).toNat 1):=⟨_,rfl⟩
                     replace H : (if x36_3 < (x7_3.length : Int) then (impl_work.l2 k3 y155 x3_2 (l0_0.length : Int) true (x7_3.set (x36_3 : Int).toNat t148) (l0_0.length : Int) (wrap64 (x36_3 + 1)) l0_0 l0_1 l0_2 l0_3) else (none)) = some (r1,r2):=by first|(rw [hy155];with_reducible exact H)|(have H2_:=(Option.bind_some _ _).symm.trans H;rw [hy155];with_reducible exact H2_)|(have H2_:=(Option.bind_some _ _).symm.trans H;with_reducible exact H2_)|with_reducible exact H|(rw [hy155];exact H)|exact H
                     have Ny155:=zm hy155
                     clear hy155
                     by_cases c57 : x36_3 < (x7_3.length : Int)
                     ·rw [if_pos c57] at H
                      have c57b0 : decide (x36_3 < (x7_3.length : Int)) = true:=decide_eq_true c57
                      clear c57
                      obtain ⟨y156,hy156⟩ : ∃ y_ : List Int,y_ = (x7_3.set (x36_3 : Int).toNat t148):=⟨_,rfl⟩
                      replace H : (impl_work.l2 k3 y155 x3_2 (l0_0.length : Int) true y156 (l0_0.length : Int) (wrap64 (x36_3 + 1)) l0_0 l0_1 l0_2 l0_3) = some (r1,r2):=by first|(rw [hy156];with_reducible exact H)|(have H2_:=(Option.bind_some _ _).symm.trans H;rw [hy156];with_reducible exact H2_)|(have H2_:=(Option.bind_some _ _).symm.trans H;with_reducible exact H2_)|with_reducible exact H|(rw [hy156];exact H)|exact H
                      have Ny156:=zm hy156
                      clear hy156
                      have H':=zm H
                      clear H
                      have hcz59_0 : wr.cell? ⟨gb132,0,none⟩ = some (.slice A0_0 l0_0.length c0_0):=(zD BK132.out 0).trans rfl
                      have hcz59_1 : wr.cell? ⟨gb132,1,none⟩ = some (.slice A0_1 l0_1.length c0_1):=(zD BK132.out 1).trans rfl
                      have hcz59_2 : wr.cell? ⟨gb132,2,none⟩ = some (.slice A0_2 l0_2.length c0_2):=(zD BK132.out 2).trans rfl
                      have hcz59_3 : wr.cell? ⟨gb132,3,none⟩ = some (.slice A0_3 l0_3.length c0_3):=(zD BK132.out 3).trans rfl
                      have hfz59_0:=zE BK132.out 0
                      have hfz59_1:=zE BK132.out 1
                      have hfz59_2:=zE BK132.out 2
                      have hfz59_3:=zE BK132.out 3
                      have p145 : 0 ≤ (x36_3 : Int):=of_decide_eq_true (by first|(with_reducible assumption)|assumption)
                      have q145 : x36_3 < (l0_2.length : Int):=of_decide_eq_true (by first|(with_reducible assumption)|assumption)
                      obtain ⟨ad145,e145,hx145_0⟩:=Kd.at_bool HR0_2.out x36_3 p145 q145
                      (try rw [← Nbq28.out] at hx145_0)
                      cases e145
                      replace hx145_0:=(HB.out.cell (World.block_lt_of_cell? w _ hx145_0)).trans hx145_0
                      replace p145:=eq_true p145
                      replace q145:=eq_true q145
                      have p146 : 0 ≤ (x36_3 : Int):=of_decide_eq_true (by first|(with_reducible assumption)|assumption)
                      have q146 : x36_3 < (l0_0.length : Int):=of_decide_eq_true (by first|(with_reducible assumption)|assumption)
                      obtain ⟨ad146,e146,hx146_0⟩:=Kd.at_int HR0_0.out x36_3 p146 q146
                      cases e146
                      replace hx146_0:=(HB.out.cell (World.block_lt_of_cell? w _ hx146_0)).trans hx146_0
                      replace p146:=eq_true p146
                      replace q146:=eq_true q146
                      have p147 : 0 ≤ (x36_3 : Int):=of_decide_eq_true (by first|(with_reducible assumption)|assumption)
                      have q147 : x36_3 < (l0_3.length : Int):=of_decide_eq_true (by first|(with_reducible assumption)|assumption)
                      obtain ⟨ad147,A147_0,c147_0,e147,hx147_0,hl147_0,hi147_0⟩:=at_L3 HR0_3.out x36_3 p147 q147
                      cases e147
                      replace hx147_0:=(HB.out.cell (World.block_lt_of_cell? w _ hx147_0)).trans hx147_0
                      have HR147_0:=zm hi147_0
                      have HC147_0:=zm hl147_0
                      clear hi147_0 hl147_0
                      replace p147:=eq_true p147
                      replace q147:=eq_true q147
                      go_wp2_with (first|((with_reducible refine gate_callee (f:=20) rfl ?_);refine goesL_ (some 69) rfl rfl Try.func20 (by kernel_rfl) rfl #[.slice A147_0 (rd_L3 l0_3 x36_3).length c147_0,.int .i64 1] rfl (by (try simp only [List.map_toArray,List.map_cons,List.map_nil]);first|done|rfl|(simp only [List.length_drop,List.length_take];rfl)) ?_;(with_reducible refine (impl_can.calls k3 _ _ (rd_L3 l0_3 x36_3) 1 t148 _ ?side1 ?side2 A33.out).mono ?_);(case side1=>repeat (first|exact (zY HR147_0.out HB.out)|(with_reducible refine zT ?_ _)|(with_reducible refine zU ?_ _)|(with_reducible refine zV ?_)));(case side2=>exact HC147_0.out);rintro e w' ⟨rfl,⟨nd,rfl⟩⟩;refine ⟨_,rfl,?_⟩;(try (rw [drewN_self wr];generalize hq_ : World.drewN wr _ = wr;have n0_ : Aside0 (Kd.R (Kd.int .i64) 3 wr w.heap.size (fun k_=>some k_ ≠ (.slice Ao23 x3_2.length co23 : Value).ownBlock∧some k_ ≠ (v143 : Value).ownBlock) v134 x2_3):=⟨by rw [← hq_];exact (by (with_reducible repeat (first|apply zP|apply zQ|apply zR));exact HO_2.out)⟩;have n1_ : Aside0 (Kd.R (Kd.int .i64) 3 wr w.heap.size (fun k_=>some k_ ≠ (v134 : Value).ownBlock∧some k_ ≠ (v143 : Value).ownBlock) (.slice Ao23 x3_2.length co23) x3_2):=⟨by rw [← hq_];exact (by (with_reducible repeat (first|apply zP|apply zQ|apply zR));exact HO_3.out)⟩;have n2_ : Aside0 (Kd.R (Kd.int .i64) 3 wr w.heap.size (fun k_=>some k_ ≠ (v134 : Value).ownBlock∧some k_ ≠ (.slice Ao23 x3_2.length co23 : Value).ownBlock) v143 x7_3):=⟨by rw [← hq_];exact (by (with_reducible repeat (first|apply zP|apply zQ|apply zR));exact HO_7.out)⟩;have n3_ : Aside0 (wr.heap[gb132]? = some (.cells #[.slice (some ad146) l0_0.length c0_0,.slice A0_1 l0_1.length c0_1,.slice (some ad145) l0_2.length c0_2,.slice (some ad147) l0_3.length c0_3] 29 (0,0))):=⟨by rw [← hq_];exact (by (with_reducible repeat (first|refine zH ?_ _|refine zI ?_|refine zG ?_ _));exact BK132.out)⟩;have n4_ : Aside0 (Below w.heap.size w wr):=⟨by rw [← hq_];exact (by repeat (first|(with_reducible first|exact HB.out|apply zA|apply zB|apply zC|refine zF ?_ GE132.out)|exact HB.out))⟩;clear HO_2 HO_3 HO_7 BK132 HB hq_;have HO_2:=n0_;have HO_3:=n1_;have HO_7:=n2_;have BK132:=n3_;have HB:=n4_;clear n0_ n1_ n2_ n3_ n4_));obtain ⟨Ao60,co60,eo60⟩:=zAb HO_2.out;subst eo60;have p151 : 0 ≤ (x36_3 : Int):=of_decide_eq_true (by first|(with_reducible assumption)|assumption);have q151 : x36_3 < (x2_3.length : Int):=of_decide_eq_true (by first|(with_reducible assumption)|assumption);obtain ⟨ad151,e151,hx151_0⟩:=Kd.at_int (zW HO_2.out).2.2 x36_3 p151 q151;cases e151;replace p151:=eq_true p151;replace q151:=eq_true q151;have p56 : 0 ≤ (x36_3 : Int):=of_decide_eq_true (by first|(with_reducible assumption)|assumption);have q56 : (x36_3 : Int) < ((x2_3.length : Int) : Int):=of_decide_eq_true (by first|(with_reducible assumption)|assumption);obtain ⟨go56,co56,eo56,gb56,gl56,cl56,HG56⟩:=Kd.R_form HO_2.out (by omega);(first|cases eo56|(injection eo56 with ea_ en_ ec_;(first|subst ea_|(injection ea_ with ea_;subst ea_));subst ec_;clear en_));have GB56:=zm gb56;have GG56:=zm HG56;clear gb56 gl56 HG56;(first|simp only [add_plain] at hx151_0|skip);obtain ⟨hx56_0,hf56_0⟩:=Kd.R_celln 0 HO_2.out (x36_3 : Int) p56 q56;replace p56:=eq_true p56;replace q56:=eq_true q56;obtain ⟨hy61_,hz61_⟩:=Kd.R_celln 0 HO_2.out (x36_3 : Int) (of_decide_eq_true (by first|(with_reducible assumption)|assumption)) (of_decide_eq_true (by first|(with_reducible assumption)|assumption));have HP61:=Kd.R_putg HO_2.out (x36_3 : Int) 1)|((with_reducible refine gate_store (t:=3) (p:=93) rfl ?_);refine store_event (t:=3) (p:=93) (v:=?vo_w62) (w1:=(wr.setCell ⟨go56,(x36_3 : Int).toNat,none⟩ (.int .i64 1))) ?hg ?ho ?hn ?hr ?_;(case ho=>rfl);(case hg=>rfl);(case hn=>rfl);(case hr=>first|(go_simp;done)|(go_simp;rfl));intro w62 hw;have hg : wr.grownBy w62 (some go56):=(by rw [hw];exact HP61.2);have hp_ : Kd.R (Kd.int .i64) 3 w62 w.heap.size (fun k_=>some k_ ≠ (.slice Ao23 x3_2.length co23 : Value).ownBlock∧some k_ ≠ (v143 : Value).ownBlock) (.slice (some ⟨go56,0,none⟩) x2_3.length co60) y155:=(by rw [hw,Ny155.out];exact HP61.1);clear HP61;have n0_:=zm (hp_);have n1_:=zm (Kd.R_after (v:=(.slice (some ⟨go56,0,none⟩) x2_3.length co60)) (v1:=(.slice (some ⟨go56,0,none⟩) x2_3.length co60)) (ok:=(fun k_=>some k_ ≠ (v143 : Value).ownBlock)) (by (with_reducible repeat (first|apply zP|apply zQ|apply zR));exact zS HO_3.out (fun _ hk=>⟨hk.2,hk.1⟩)) hg (.inl rfl));have n2_:=zm (Kd.R_after (v:=(.slice (some ⟨go56,0,none⟩) x2_3.length co60)) (v1:=(.slice (some ⟨go56,0,none⟩) x2_3.length co60)) (ok:=(fun k_=>some k_ ≠ (.slice Ao23 x3_2.length co23 : Value).ownBlock)) (by (with_reducible repeat (first|apply zP|apply zQ|apply zR));exact zS HO_7.out (fun _ hk=>⟨hk.2,hk.1⟩)) hg (.inl rfl));have n3_:=zm (blk_grown (g:=gb132) (o:=.cells #[.slice (some ad146) l0_0.length c0_0,.slice A0_1 l0_1.length c0_1,.slice (some ad145) l0_2.length c0_2,.slice (some ad147) l0_3.length c0_3] 29 (0,0)) (by (with_reducible repeat (first|refine zH ?_ _|refine zI ?_|refine zG ?_ _));exact BK132.out) hg (Kd.R_ne HO_2.out BK132.out (by decide)));have n4_:=zm ((by rw [hw];exact zF (HB.out) GB56.out : Below w.heap.size w w62));clear HO_2;clear HO_3;clear HO_7;clear BK132;clear HB;have HO_2:=n0_;have HO_3:=n1_;have HO_7:=n2_;have BK132:=n3_;have HB:=n4_;clear n0_ n1_ n2_ n3_ n4_;clear hg hw hp_;have p58 : 0 ≤ (x36_3 : Int):=of_decide_eq_true (by first|(with_reducible assumption)|assumption);have q58 : (x36_3 : Int) < ((x7_3.length : Int) : Int):=of_decide_eq_true (by first|(with_reducible assumption)|assumption);obtain ⟨go58,co58,eo58,gb58,gl58,cl58,HG58⟩:=Kd.R_form HO_7.out (by omega);(first|cases eo58|(injection eo58 with ea_ en_ ec_;(first|subst ea_|(injection ea_ with ea_;subst ea_));subst ec_;clear en_));have GB58:=zm gb58;have GG58:=zm HG58;clear gb58 gl58 HG58;obtain ⟨hx58_0,hf58_0⟩:=Kd.R_celln 0 HO_7.out (x36_3 : Int) p58 q58;replace p58:=eq_true p58;replace q58:=eq_true q58;obtain ⟨hy63_,hz63_⟩:=Kd.R_celln 0 HO_7.out (x36_3 : Int) (of_decide_eq_true (by first|(with_reducible assumption)|assumption)) (of_decide_eq_true (by first|(with_reducible assumption)|assumption));have HP63:=Kd.R_putg HO_7.out (x36_3 : Int) t148)|((with_reducible refine gate_store (t:=3) (p:=94) rfl ?_);refine store_event (t:=3) (p:=94) (v:=?vo_w64) (w1:=(w62.setCell ⟨go58,(x36_3 : Int).toNat,none⟩ (.int .i64 t148))) ?hg ?ho ?hn ?hr ?_;(case ho=>rfl);(case hg=>rfl);(case hn=>rfl);(case hr=>first|(go_simp;done)|(go_simp;rfl));intro w64 hw;have hg : w62.grownBy w64 (some go58):=(by rw [hw];exact HP63.2);have hp_ : Kd.R (Kd.int .i64) 3 w64 w.heap.size (fun k_=>some k_ ≠ (.slice Ao23 x3_2.length co23 : Value).ownBlock∧some k_ ≠ (.slice (some ⟨go56,0,none⟩) x2_3.length co60 : Value).ownBlock) (.slice (some ⟨go58,0,none⟩) x7_3.length co58) y156:=(by rw [hw,Ny156.out];exact HP63.1);clear HP63;have n0_:=zm (Kd.R_after (v:=(.slice (some ⟨go58,0,none⟩) x7_3.length co58)) (v1:=(.slice (some ⟨go58,0,none⟩) x7_3.length co58)) (ok:=(fun k_=>some k_ ≠ (.slice Ao23 x3_2.length co23 : Value).ownBlock)) (by (with_reducible repeat (first|apply zP|apply zQ|apply zR));exact HO_2.out) hg (.inl rfl));have n1_:=zm (Kd.R_after (v:=(.slice (some ⟨go58,0,none⟩) x7_3.length co58)) (v1:=(.slice (some ⟨go58,0,none⟩) x7_3.length co58)) (ok:=(fun k_=>some k_ ≠ (.slice (some ⟨go56,0,none⟩) x2_3.length co60 : Value).ownBlock)) (by (with_reducible repeat (first|apply zP|apply zQ|apply zR));exact zS HO_3.out (fun _ hk=>⟨hk.2,hk.1⟩)) hg (.inl rfl));have n2_:=zm (hp_);have n3_:=zm (blk_grown (g:=gb132) (o:=.cells #[.slice (some ad146) l0_0.length c0_0,.slice A0_1 l0_1.length c0_1,.slice (some ad145) l0_2.length c0_2,.slice (some ad147) l0_3.length c0_3] 29 (0,0)) (by (with_reducible repeat (first|refine zH ?_ _|refine zI ?_|refine zG ?_ _));exact BK132.out) hg (Kd.R_ne HO_7.out BK132.out (by decide)));have n4_:=zm ((by rw [hw];exact zF (HB.out) GB58.out : Below w.heap.size w w64));clear HO_2;clear HO_3;clear HO_7;clear BK132;clear HB;have HO_2:=n0_;have HO_3:=n1_;have HO_7:=n2_;have BK132:=n3_;have HB:=n4_;clear n0_ n1_ n2_ n3_ n4_;clear hg hw hp_))
                      go_roundg k3
                      case measure=>have:=HK1.out;have:=HK2.out;have:=HK3.out;omega
                      case rel=>exact ⟨(y155),(true),(y156),(wrap64 (x36_3 + 1)),(by first|rfl|(simp;done)|(simp [*];done)),(by first|rfl|(simp;done)|(simp [*];done)),H',⟨by have:=HK1.out;have:=HK2.out;have:=HK3.out;omega⟩,⟨by (with_reducible repeat (first|apply zP|apply zQ|apply zR));exact HO_2.out⟩,⟨by (with_reducible repeat (first|apply zP|apply zQ|apply zR));exact HO_3.out⟩,⟨by (with_reducible repeat (first|apply zP|apply zQ|apply zR));exact zS HO_7.out (fun _ hk=>⟨hk.2,hk.1⟩)⟩,⟨by (with_reducible repeat (first|refine zH ?_ _|refine zI ?_|refine zG ?_ _));exact BK132.out⟩,⟨by repeat (first|(with_reducible first|exact HB.out|apply zA|apply zB|apply zC|refine zF ?_ GE132.out)|exact HB.out)⟩⟩
                     ·rw [if_neg c57] at H
                      exact absurd H (by simp)
                   ·rw [if_neg c44] at H
                    exact absurd H (by simp)
                 ·rw [if_neg c32] at H
                  exact absurd H (by simp)
                ·rw [if_neg c31] at H
                 have c31b0 : ((rd l0_0 x36_3) == (-1)) = false:=beq_eq_false_iff_ne.mpr c31
                 have c31b1 : ((rd l0_0 x36_3) != (-1)) = true:=bne_iff_ne.mpr c31
                 by_cases c65 : 0 ≤ (rd l0_0 x36_3)
                 ·rw [if_pos c65] at H
                  have c65b0 : decide (0 ≤ (rd l0_0 x36_3)) = true:=decide_eq_true c65
                  clear c65
                  by_cases c66 : (rd l0_0 x36_3) < (x3_2.length : Int)
                  ·rw [if_pos c66] at H
                   have c66b0 : decide ((rd l0_0 x36_3) < (x3_2.length : Int)) = true:=decide_eq_true c66
                   clear c66
                   obtain ⟨ji67,hji67⟩ : ∃ j_ : Int,(mn (wrap64 ((rd x3_2 (rd l0_0 x36_3)) + 1)) 3) = j_:=⟨_,rfl⟩
                   replace H : (if x36_3 < (l0_3.length : Int) then ((impl_can.f k3 (rd_L3 l0_3 x36_3) (ji67)).bind fun t160=>(if x6_3 = true then (if x36_3 < (x2_3.length : Int) then (if x36_3 < (x7_3.length : Int) then (impl_work.l2 k3 (x2_3.set (x36_3 : Int).toNat (ji67)) x3_2 (l0_0.length : Int) true (x7_3.set (x36_3 : Int).toNat t160) (l0_0.length : Int) (wrap64 (x36_3 + 1)) l0_0 l0_1 l0_2 l0_3) else (none)) else (none)) else (if x36_3 < (x2_3.length : Int) then (if (ji67) = (rd x2_3 x36_3) then (if x36_3 < (x3_2.length : Int) then (if x36_3 < (x7_3.length : Int) then (impl_work.l2 k3 (x2_3.set (x36_3 : Int).toNat (ji67)) x3_2 (l0_0.length : Int) (t160 != (rd x3_2 x36_3)) (x7_3.set (x36_3 : Int).toNat t160) (l0_0.length : Int) (wrap64 (x36_3 + 1)) l0_0 l0_1 l0_2 l0_3) else (none)) else (none)) else (if x36_3 < (x7_3.length : Int) then (impl_work.l2 k3 (x2_3.set (x36_3 : Int).toNat (ji67)) x3_2 (l0_0.length : Int) true (x7_3.set (x36_3 : Int).toNat t160) (l0_0.length : Int) (wrap64 (x36_3 + 1)) l0_0 l0_1 l0_2 l0_3) else (none))) else (none)))) else (none)) = some (r1,r2):=by first|(rw [hji67] at H;exact H)|(simp only [hji67] at H ⊢;exact H)
                   have hji67_ : (if 3 < (wrap64 ((rd x3_2 (rd l0_0 x36_3)) + 1)) then 3 else (wrap64 ((rd x3_2 (rd l0_0 x36_3)) + 1))) = ji67:=hji67
                   by_cases c68 : x36_3 < (l0_3.length : Int)
                   ·rw [if_pos c68] at H
                    have c68b0 : decide (x36_3 < (l0_3.length : Int)) = true:=decide_eq_true c68
                    clear c68
                    replace H:=Option.bind_eq_some_iff.mp H
                    obtain ⟨t160,A690,H⟩:=H
                    replace H : (if x6_3 = true then (if x36_3 < (x2_3.length : Int) then (if x36_3 < (x7_3.length : Int) then (impl_work.l2 k3 (x2_3.set (x36_3 : Int).toNat (ji67)) x3_2 (l0_0.length : Int) true (x7_3.set (x36_3 : Int).toNat t160) (l0_0.length : Int) (wrap64 (x36_3 + 1)) l0_0 l0_1 l0_2 l0_3) else (none)) else (none)) else (if x36_3 < (x2_3.length : Int) then (if (ji67) = (rd x2_3 x36_3) then (if x36_3 < (x3_2.length : Int) then (if x36_3 < (x7_3.length : Int) then (impl_work.l2 k3 (x2_3.set (x36_3 : Int).toNat (ji67)) x3_2 (l0_0.length : Int) (t160 != (rd x3_2 x36_3)) (x7_3.set (x36_3 : Int).toNat t160) (l0_0.length : Int) (wrap64 (x36_3 + 1)) l0_0 l0_1 l0_2 l0_3) else (none)) else (none)) else (if x36_3 < (x7_3.length : Int) then (impl_work.l2 k3 (x2_3.set (x36_3 : Int).toNat (ji67)) x3_2 (l0_0.length : Int) true (x7_3.set (x36_3 : Int).toNat t160) (l0_0.length : Int) (wrap64 (x36_3 + 1)) l0_0 l0_1 l0_2 l0_3) else (none))) else (none))) = some (r1,r2):=H
                    have A69:=zm A690
                    clear A690
                    by_cases c70 : x6_3 = true
                    ·subst c70
                     have H1 : (if x36_3 < (x2_3.length : Int) then (if x36_3 < (x7_3.length : Int) then (impl_work.l2 k3 (x2_3.set (x36_3 : Int).toNat (ji67)) x3_2 (l0_0.length : Int) true (x7_3.set (x36_3 : Int).toNat t160) (l0_0.length : Int) (wrap64 (x36_3 + 1)) l0_0 l0_1 l0_2 l0_3) else (none)) else (none)) = some (r1,r2):=by rw [if_pos rfl] at H;exact H
                     clear H
                     have H:=H1
                     clear H1
                     by_cases c71 : x36_3 < (x2_3.length : Int)
                     ·rw [if_pos c71] at H
                      have c71b0 : decide (x36_3 < (x2_3.length : Int)) = true:=decide_eq_true c71
                      clear c71
                      obtain ⟨y161,hy161⟩ : ∃ y_ : List Int,y_ = (x2_3.set (x36_3 : Int).toNat (ji67)):=⟨_,rfl⟩
                      replace H : (if x36_3 < (x7_3.length : Int) then (impl_work.l2 k3 y161 x3_2 (l0_0.length : Int) true (x7_3.set (x36_3 : Int).toNat t160) (l0_0.length : Int) (wrap64 (x36_3 + 1)) l0_0 l0_1 l0_2 l0_3) else (none)) = some (r1,r2):=by first|(rw [hy161];with_reducible exact H)|(have H2_:=(Option.bind_some _ _).symm.trans H;rw [hy161];with_reducible exact H2_)|(have H2_:=(Option.bind_some _ _).symm.trans H;with_reducible exact H2_)|with_reducible exact H|(rw [hy161];exact H)|exact H
                      have Ny161:=zm hy161
                      clear hy161
                      by_cases c73 : x36_3 < (x7_3.length : Int)
                      ·rw [if_pos c73] at H
                       have c73b0 : decide (x36_3 < (x7_3.length : Int)) = true:=decide_eq_true c73
                       clear c73
                       obtain ⟨y162,hy162⟩ : ∃ y_ : List Int,y_ = (x7_3.set (x36_3 : Int).toNat t160):=⟨_,rfl⟩
                       replace H : (impl_work.l2 k3 y161 x3_2 (l0_0.length : Int) true y162 (l0_0.length : Int) (wrap64 (x36_3 + 1)) l0_0 l0_1 l0_2 l0_3) = some (r1,r2):=by first|(rw [hy162];with_reducible exact H)|(have H2_:=(Option.bind_some _ _).symm.trans H;rw [hy162];with_reducible exact H2_)|(have H2_:=(Option.bind_some _ _).symm.trans H;with_reducible exact H2_)|with_reducible exact H|(rw [hy162];exact H)|exact H
                       have Ny162:=zm hy162
                       clear hy162
                       have H':=zm H
                       clear H
                       have hcz75_0 : wr.cell? ⟨gb132,0,none⟩ = some (.slice A0_0 l0_0.length c0_0):=(zD BK132.out 0).trans rfl
                       have hcz75_1 : wr.cell? ⟨gb132,1,none⟩ = some (.slice A0_1 l0_1.length c0_1):=(zD BK132.out 1).trans rfl
                       have hcz75_2 : wr.cell? ⟨gb132,2,none⟩ = some (.slice A0_2 l0_2.length c0_2):=(zD BK132.out 2).trans rfl
                       have hcz75_3 : wr.cell? ⟨gb132,3,none⟩ = some (.slice A0_3 l0_3.length c0_3):=(zD BK132.out 3).trans rfl
                       have hfz75_0:=zE BK132.out 0
                       have hfz75_1:=zE BK132.out 1
                       have hfz75_2:=zE BK132.out 2
                       have hfz75_3:=zE BK132.out 3
                       have p145 : 0 ≤ (x36_3 : Int):=of_decide_eq_true (by first|(with_reducible assumption)|assumption)
                       have q145 : x36_3 < (l0_2.length : Int):=of_decide_eq_true (by first|(with_reducible assumption)|assumption)
                       obtain ⟨ad145,e145,hx145_0⟩:=Kd.at_bool HR0_2.out x36_3 p145 q145
                       (try rw [← Nbq28.out] at hx145_0)
                       cases e145
                       replace hx145_0:=(HB.out.cell (World.block_lt_of_cell? w _ hx145_0)).trans hx145_0
                       replace p145:=eq_true p145
                       replace q145:=eq_true q145
                       have p146 : 0 ≤ (x36_3 : Int):=of_decide_eq_true (by first|(with_reducible assumption)|assumption)
                       have q146 : x36_3 < (l0_0.length : Int):=of_decide_eq_true (by first|(with_reducible assumption)|assumption)
                       obtain ⟨ad146,e146,hx146_0⟩:=Kd.at_int HR0_0.out x36_3 p146 q146
                       cases e146
                       replace hx146_0:=(HB.out.cell (World.block_lt_of_cell? w _ hx146_0)).trans hx146_0
                       replace p146:=eq_true p146
                       replace q146:=eq_true q146
                       have p157 : 0 ≤ (x36_3 : Int):=of_decide_eq_true (by first|(with_reducible assumption)|assumption)
                       have q157 : x36_3 < (l0_0.length : Int):=of_decide_eq_true (by first|(with_reducible assumption)|assumption)
                       obtain ⟨ad157,e157,hx157_0⟩:=Kd.at_int HR0_0.out x36_3 p157 q157
                       obtain rfl : ad146 = ad157:=(by injection e157)
                       replace hx157_0:=(HB.out.cell (World.block_lt_of_cell? w _ hx157_0)).trans hx157_0
                       replace p157:=eq_true p157
                       replace q157:=eq_true q157
                       have p158 : 0 ≤ ((rd l0_0 x36_3) : Int):=of_decide_eq_true (by first|(with_reducible assumption)|assumption)
                       have q158 : (rd l0_0 x36_3) < (x3_2.length : Int):=of_decide_eq_true (by first|(with_reducible assumption)|assumption)
                       obtain ⟨ad158,e158,hx158_0⟩:=Kd.at_int (zW HO_3.out).2.2 (rd l0_0 x36_3) p158 q158
                       cases e158
                       replace p158:=eq_true p158
                       replace q158:=eq_true q158
                       have p159 : 0 ≤ (x36_3 : Int):=of_decide_eq_true (by first|(with_reducible assumption)|assumption)
                       have q159 : x36_3 < (l0_3.length : Int):=of_decide_eq_true (by first|(with_reducible assumption)|assumption)
                       obtain ⟨ad159,A159_0,c159_0,e159,hx159_0,hl159_0,hi159_0⟩:=at_L3 HR0_3.out x36_3 p159 q159
                       cases e159
                       replace hx159_0:=(HB.out.cell (World.block_lt_of_cell? w _ hx159_0)).trans hx159_0
                       have HR159_0:=zm hi159_0
                       have HC159_0:=zm hl159_0
                       clear hi159_0 hl159_0
                       replace p159:=eq_true p159
                       replace q159:=eq_true q159
                       go_wp2_with (first|((with_reducible refine gate_callee (f:=20) rfl ?_);refine goesL_ (some 69) rfl rfl Try.func20 (by kernel_rfl) rfl #[.slice A159_0 (rd_L3 l0_3 x36_3).length c159_0,.int .i64 ji67] rfl (by (try simp only [List.map_toArray,List.map_cons,List.map_nil]);first|done|(simp only [hji67];rfl)|rfl|(simp only [List.length_drop,List.length_take];rfl)) ?_;(with_reducible refine (impl_can.calls k3 _ _ (rd_L3 l0_3 x36_3) ji67 t160 _ ?side1 ?side2 A69.out).mono ?_);(case side1=>repeat (first|exact (zY HR159_0.out HB.out)|(with_reducible refine zT ?_ _)|(with_reducible refine zU ?_ _)|(with_reducible refine zV ?_)));(case side2=>exact HC159_0.out);rintro e w' ⟨rfl,⟨nd,rfl⟩⟩;refine ⟨_,rfl,?_⟩;(try (rw [drewN_self wr];generalize hq_ : World.drewN wr _ = wr;have n0_ : Aside0 (Kd.R (Kd.int .i64) 3 wr w.heap.size (fun k_=>some k_ ≠ (.slice (some ad158) x3_2.length co23 : Value).ownBlock∧some k_ ≠ (v143 : Value).ownBlock) v134 x2_3):=⟨by rw [← hq_];exact (by (with_reducible repeat (first|apply zP|apply zQ|apply zR));exact HO_2.out)⟩;have n1_ : Aside0 (Kd.R (Kd.int .i64) 3 wr w.heap.size (fun k_=>some k_ ≠ (v134 : Value).ownBlock∧some k_ ≠ (v143 : Value).ownBlock) (.slice (some ad158) x3_2.length co23) x3_2):=⟨by rw [← hq_];exact (by (with_reducible repeat (first|apply zP|apply zQ|apply zR));exact HO_3.out)⟩;have n2_ : Aside0 (Kd.R (Kd.int .i64) 3 wr w.heap.size (fun k_=>some k_ ≠ (v134 : Value).ownBlock∧some k_ ≠ (.slice (some ad158) x3_2.length co23 : Value).ownBlock) v143 x7_3):=⟨by rw [← hq_];exact (by (with_reducible repeat (first|apply zP|apply zQ|apply zR));exact HO_7.out)⟩;have n3_ : Aside0 (wr.heap[gb132]? = some (.cells #[.slice (some ad146) l0_0.length c0_0,.slice A0_1 l0_1.length c0_1,.slice (some ad145) l0_2.length c0_2,.slice (some ad159) l0_3.length c0_3] 29 (0,0))):=⟨by rw [← hq_];exact (by (with_reducible repeat (first|refine zH ?_ _|refine zI ?_|refine zG ?_ _));exact BK132.out)⟩;have n4_ : Aside0 (Below w.heap.size w wr):=⟨by rw [← hq_];exact (by repeat (first|(with_reducible first|exact HB.out|apply zA|apply zB|apply zC|refine zF ?_ GE132.out)|exact HB.out))⟩;clear HO_2 HO_3 HO_7 BK132 HB hq_;have HO_2:=n0_;have HO_3:=n1_;have HO_7:=n2_;have BK132:=n3_;have HB:=n4_;clear n0_ n1_ n2_ n3_ n4_));have p72 : 0 ≤ (x36_3 : Int):=of_decide_eq_true (by first|(with_reducible assumption)|assumption);have q72 : (x36_3 : Int) < ((x2_3.length : Int) : Int):=of_decide_eq_true (by first|(with_reducible assumption)|assumption);obtain ⟨go72,co72,eo72,gb72,gl72,cl72,HG72⟩:=Kd.R_form HO_2.out (by omega);(first|cases eo72|(injection eo72 with ea_ en_ ec_;(first|subst ea_|(injection ea_ with ea_;subst ea_));subst ec_;clear en_));have GB72:=zm gb72;have GG72:=zm HG72;clear gb72 gl72 HG72;obtain ⟨hx72_0,hf72_0⟩:=Kd.R_celln 0 HO_2.out (x36_3 : Int) p72 q72;replace p72:=eq_true p72;replace q72:=eq_true q72;obtain ⟨hy76_,hz76_⟩:=Kd.R_celln 0 HO_2.out (x36_3 : Int) (of_decide_eq_true (by first|(with_reducible assumption)|assumption)) (of_decide_eq_true (by first|(with_reducible assumption)|assumption));have HP76:=Kd.R_putg HO_2.out (x36_3 : Int) ji67)|((with_reducible refine gate_store (t:=3) (p:=93) rfl ?_);refine store_event (t:=3) (p:=93) (v:=?vo_w77) (w1:=(wr.setCell ⟨go72,(x36_3 : Int).toNat,none⟩ (.int .i64 ji67))) ?hg ?ho ?hn ?hr ?_;(case ho=>rfl);(case hg=>rfl);(case hn=>rfl);(case hr=>first|(go_simp;done)|(go_simp;rfl));intro w77 hw;have hg : wr.grownBy w77 (some go72):=(by rw [hw];exact HP76.2);have hp_ : Kd.R (Kd.int .i64) 3 w77 w.heap.size (fun k_=>some k_ ≠ (.slice (some ad158) x3_2.length co23 : Value).ownBlock∧some k_ ≠ (v143 : Value).ownBlock) (.slice (some ⟨go72,0,none⟩) x2_3.length co72) y161:=(by rw [hw,Ny161.out];exact HP76.1);clear HP76;have n0_:=zm (hp_);have n1_:=zm (Kd.R_after (v:=(.slice (some ⟨go72,0,none⟩) x2_3.length co72)) (v1:=(.slice (some ⟨go72,0,none⟩) x2_3.length co72)) (ok:=(fun k_=>some k_ ≠ (v143 : Value).ownBlock)) (by (with_reducible repeat (first|apply zP|apply zQ|apply zR));exact zS HO_3.out (fun _ hk=>⟨hk.2,hk.1⟩)) hg (.inl rfl));have n2_:=zm (Kd.R_after (v:=(.slice (some ⟨go72,0,none⟩) x2_3.length co72)) (v1:=(.slice (some ⟨go72,0,none⟩) x2_3.length co72)) (ok:=(fun k_=>some k_ ≠ (.slice (some ad158) x3_2.length co23 : Value).ownBlock)) (by (with_reducible repeat (first|apply zP|apply zQ|apply zR));exact zS HO_7.out (fun _ hk=>⟨hk.2,hk.1⟩)) hg (.inl rfl));have n3_:=zm (blk_grown (g:=gb132) (o:=.cells #[.slice (some ad146) l0_0.length c0_0,.slice A0_1 l0_1.length c0_1,.slice (some ad145) l0_2.length c0_2,.slice (some ad159) l0_3.length c0_3] 29 (0,0)) (by (with_reducible repeat (first|refine zH ?_ _|refine zI ?_|refine zG ?_ _));exact BK132.out) hg (Kd.R_ne HO_2.out BK132.out (by decide)));have n4_:=zm ((by rw [hw];exact zF (HB.out) GB72.out : Below w.heap.size w w77));clear HO_2;clear HO_3;clear HO_7;clear BK132;clear HB;have HO_2:=n0_;have HO_3:=n1_;have HO_7:=n2_;have BK132:=n3_;have HB:=n4_;clear n0_ n1_ n2_ n3_ n4_;clear hg hw hp_;have p74 : 0 ≤ (x36_3 : Int):=of_decide_eq_true (by first|(with_reducible assumption)|assumption);have q74 : (x36_3 : Int) < ((x7_3.length : Int) : Int):=of_decide_eq_true (by first|(with_reducible assumption)|assumption);obtain ⟨go74,co74,eo74,gb74,gl74,cl74,HG74⟩:=Kd.R_form HO_7.out (by omega);(first|cases eo74|(injection eo74 with ea_ en_ ec_;(first|subst ea_|(injection ea_ with ea_;subst ea_));subst ec_;clear en_));have GB74:=zm gb74;have GG74:=zm HG74;clear gb74 gl74 HG74;obtain ⟨hx74_0,hf74_0⟩:=Kd.R_celln 0 HO_7.out (x36_3 : Int) p74 q74;replace p74:=eq_true p74;replace q74:=eq_true q74;obtain ⟨hy78_,hz78_⟩:=Kd.R_celln 0 HO_7.out (x36_3 : Int) (of_decide_eq_true (by first|(with_reducible assumption)|assumption)) (of_decide_eq_true (by first|(with_reducible assumption)|assumption));have HP78:=Kd.R_putg HO_7.out (x36_3 : Int) t160)|((with_reducible refine gate_store (t:=3) (p:=94) rfl ?_);refine store_event (t:=3) (p:=94) (v:=?vo_w79) (w1:=(w77.setCell ⟨go74,(x36_3 : Int).toNat,none⟩ (.int .i64 t160))) ?hg ?ho ?hn ?hr ?_;(case ho=>rfl);(case hg=>rfl);(case hn=>rfl);(case hr=>first|(go_simp;done)|(go_simp;rfl));intro w79 hw;have hg : w77.grownBy w79 (some go74):=(by rw [hw];exact HP78.2);have hp_ : Kd.R (Kd.int .i64) 3 w79 w.heap.size (fun k_=>some k_ ≠ (.slice (some ad158) x3_2.length co23 : Value).ownBlock∧some k_ ≠ (.slice (some ⟨go72,0,none⟩) x2_3.length co72 : Value).ownBlock) (.slice (some ⟨go74,0,none⟩) x7_3.length co74) y162:=(by rw [hw,Ny162.out];exact HP78.1);clear HP78;have n0_:=zm (Kd.R_after (v:=(.slice (some ⟨go74,0,none⟩) x7_3.length co74)) (v1:=(.slice (some ⟨go74,0,none⟩) x7_3.length co74)) (ok:=(fun k_=>some k_ ≠ (.slice (some ad158) x3_2.length co23 : Value).ownBlock)) (by (with_reducible repeat (first|apply zP|apply zQ|apply zR));exact HO_2.out) hg (.inl rfl));have n1_:=zm (Kd.R_after (v:=(.slice (some ⟨go74,0,none⟩) x7_3.length co74)) (v1:=(.slice (some ⟨go74,0,none⟩) x7_3.length co74)) (ok:=(fun k_=>some k_ ≠ (.slice (some ⟨go72,0,none⟩) x2_3.length co72 : Value).ownBlock)) (by (with_reducible repeat (first|apply zP|apply zQ|apply zR));exact zS HO_3.out (fun _ hk=>⟨hk.2,hk.1⟩)) hg (.inl rfl));have n2_:=zm (hp_);have n3_:=zm (blk_grown (g:=gb132) (o:=.cells #[.slice (some ad146) l0_0.length c0_0,.slice A0_1 l0_1.length c0_1,.slice (some ad145) l0_2.length c0_2,.slice (some ad159) l0_3.length c0_3] 29 (0,0)) (by (with_reducible repeat (first|refine zH ?_ _|refine zI ?_|refine zG ?_ _));exact BK132.out) hg (Kd.R_ne HO_7.out BK132.out (by decide)));have n4_:=zm ((by rw [hw];exact zF (HB.out) GB74.out : Below w.heap.size w w79));clear HO_2;clear HO_3;clear HO_7;clear BK132;clear HB;have HO_2:=n0_;have HO_3:=n1_;have HO_7:=n2_;have BK132:=n3_;have HB:=n4_;clear n0_ n1_ n2_ n3_ n4_;clear hg hw hp_))
                       go_roundg k3
                       case measure=>have:=HK1.out;have:=HK2.out;have:=HK3.out;omega
                       case rel=>exact ⟨(y161),(true),(y162),(wrap64 (x36_3 + 1)),(by first|rfl|(simp;done)|(simp [*];done)),(by first|rfl|(simp;done)|(simp [*];done)),H',⟨by have:=HK1.out;have:=HK2.out;have:=HK3.out;omega⟩,⟨by (with_reducible repeat (first|apply zP|apply zQ|apply zR));exact HO_2.out⟩,⟨by (with_reducible repeat (first|apply zP|apply zQ|apply zR));exact HO_3.out⟩,⟨by (with_reducible repeat (first|apply zP|apply zQ|apply zR));exact zS HO_7.out (fun _ hk=>⟨hk.2,hk.1⟩)⟩,⟨by (with_reducible repeat (first|refine zH ?_ _|refine zI ?_|refine zG ?_ _));exact BK132.out⟩,⟨by repeat (first|(with_reducible first|exact HB.out|apply zA|apply zB|apply zC|refine zF ?_ GE132.out)|exact HB.out)⟩⟩
                      ·rw [if_neg c73] at H
                       exact absurd H (by simp)
                     ·rw [if_neg c71] at H
                      exact absurd H (by simp)
                    ·replace c70:=Bool.eq_false_iff.mpr c70
                     subst c70
                     have H1 : (if x36_3 < (x2_3.length : Int) then (if (ji67) = (rd x2_3 x36_3) then (if x36_3 < (x3_2.length : Int) then (if x36_3 < (x7_3.length : Int) then (impl_work.l2 k3 (x2_3.set (x36_3 : Int).toNat (ji67)) x3_2 (l0_0.length : Int) (t160 != (rd x3_2 x36_3)) (x7_3.set (x36_3 : Int).toNat t160) (l0_0.length : Int) (wrap64 (x36_3 + 1)) l0_0 l0_1 l0_2 l0_3) else (none)) else (none)) else (if x36_3 < (x7_3.length : Int) then (impl_work.l2 k3 (x2_3.set (x36_3 : Int).toNat (ji67)) x3_2 (l0_0.length : Int) true (x7_3.set (x36_3 : Int).toNat t160) (l0_0.length : Int) (wrap64 (x36_3 + 1)) l0_0 l0_1 l0_2 l0_3) else (none))) else (none)) = some (r1,r2):=by rw [if_neg (show ¬ (false = true) by decide)] at H;exact H
                     clear H
                     have H:=H1
                     clear H1
                     by_cases c80 : x36_3 < (x2_3.length : Int)
                     ·rw [if_pos c80] at H
                      have c80b0 : decide (x36_3 < (x2_3.length : Int)) = true:=decide_eq_true c80
                      clear c80
                      by_cases c81 : (ji67) = (rd x2_3 x36_3)
                      ·rw [if_pos c81] at H
                       have c81b0 : ((ji67) == (rd x2_3 x36_3)) = true:=beq_iff_eq.mpr c81
                       have c81b1 : ((ji67) != (rd x2_3 x36_3)) = false:=bne_eq_false_iff_eq.mpr c81
                       clear c81
                       by_cases c82 : x36_3 < (x3_2.length : Int)
                       ·rw [if_pos c82] at H
                        have c82b0 : decide (x36_3 < (x3_2.length : Int)) = true:=decide_eq_true c82
                        clear c82
                        obtain ⟨y165,hy165⟩ : ∃ y_ : List Int,y_ = (x2_3.set (x36_3 : Int).toNat (ji67)):=⟨_,rfl⟩
                        replace H : (if x36_3 < (x7_3.length : Int) then (impl_work.l2 k3 y165 x3_2 (l0_0.length : Int) (t160 != (rd x3_2 x36_3)) (x7_3.set (x36_3 : Int).toNat t160) (l0_0.length : Int) (wrap64 (x36_3 + 1)) l0_0 l0_1 l0_2 l0_3) else (none)) = some (r1,r2):=by first|(rw [hy165];with_reducible exact H)|(have H2_:=(Option.bind_some _ _).symm.trans H;rw [hy165];with_reducible exact H2_)|(have H2_:=(Option.bind_some _ _).symm.trans H;with_reducible exact H2_)|with_reducible exact H|(rw [hy165];exact H)|exact H
                        have Ny165:=zm hy165
                        clear hy165
                        by_cases c84 : x36_3 < (x7_3.length : Int)
                        ·rw [if_pos c84] at H
                         have c84b0 : decide (x36_3 < (x7_3.length : Int)) = true:=decide_eq_true c84
                         clear c84
                         obtain ⟨y166,hy166⟩ : ∃ y_ : List Int,y_ = (x7_3.set (x36_3 : Int).toNat t160):=⟨_,rfl⟩
                         replace H : (impl_work.l2 k3 y165 x3_2 (l0_0.length : Int) (t160 != (rd x3_2 x36_3)) y166 (l0_0.length : Int) (wrap64 (x36_3 + 1)) l0_0 l0_1 l0_2 l0_3) = some (r1,r2):=by first|(rw [hy166];with_reducible exact H)|(have H2_:=(Option.bind_some _ _).symm.trans H;rw [hy166];with_reducible exact H2_)|(have H2_:=(Option.bind_some _ _).symm.trans H;with_reducible exact H2_)|with_reducible exact H|(rw [hy166];exact H)|exact H
                         have Ny166:=zm hy166
                         clear hy166
                         have H':=zm H
                         clear H
                         have hcz86_0 : wr.cell? ⟨gb132,0,none⟩ = some (.slice A0_0 l0_0.length c0_0):=(zD BK132.out 0).trans rfl
                         have hcz86_1 : wr.cell? ⟨gb132,1,none⟩ = some (.slice A0_1 l0_1.length c0_1):=(zD BK132.out 1).trans rfl
                         have hcz86_2 : wr.cell? ⟨gb132,2,none⟩ = some (.slice A0_2 l0_2.length c0_2):=(zD BK132.out 2).trans rfl
                         have hcz86_3 : wr.cell? ⟨gb132,3,none⟩ = some (.slice A0_3 l0_3.length c0_3):=(zD BK132.out 3).trans rfl
                         have hfz86_0:=zE BK132.out 0
                         have hfz86_1:=zE BK132.out 1
                         have hfz86_2:=zE BK132.out 2
                         have hfz86_3:=zE BK132.out 3
                         have p145 : 0 ≤ (x36_3 : Int):=of_decide_eq_true (by first|(with_reducible assumption)|assumption)
                         have q145 : x36_3 < (l0_2.length : Int):=of_decide_eq_true (by first|(with_reducible assumption)|assumption)
                         obtain ⟨ad145,e145,hx145_0⟩:=Kd.at_bool HR0_2.out x36_3 p145 q145
                         (try rw [← Nbq28.out] at hx145_0)
                         cases e145
                         replace hx145_0:=(HB.out.cell (World.block_lt_of_cell? w _ hx145_0)).trans hx145_0
                         replace p145:=eq_true p145
                         replace q145:=eq_true q145
                         have p146 : 0 ≤ (x36_3 : Int):=of_decide_eq_true (by first|(with_reducible assumption)|assumption)
                         have q146 : x36_3 < (l0_0.length : Int):=of_decide_eq_true (by first|(with_reducible assumption)|assumption)
                         obtain ⟨ad146,e146,hx146_0⟩:=Kd.at_int HR0_0.out x36_3 p146 q146
                         cases e146
                         replace hx146_0:=(HB.out.cell (World.block_lt_of_cell? w _ hx146_0)).trans hx146_0
                         replace p146:=eq_true p146
                         replace q146:=eq_true q146
                         have p157 : 0 ≤ (x36_3 : Int):=of_decide_eq_true (by first|(with_reducible assumption)|assumption)
                         have q157 : x36_3 < (l0_0.length : Int):=of_decide_eq_true (by first|(with_reducible assumption)|assumption)
                         obtain ⟨ad157,e157,hx157_0⟩:=Kd.at_int HR0_0.out x36_3 p157 q157
                         obtain rfl : ad146 = ad157:=(by injection e157)
                         replace hx157_0:=(HB.out.cell (World.block_lt_of_cell? w _ hx157_0)).trans hx157_0
                         replace p157:=eq_true p157
                         replace q157:=eq_true q157
                         have p158 : 0 ≤ ((rd l0_0 x36_3) : Int):=of_decide_eq_true (by first|(with_reducible assumption)|assumption)
                         have q158 : (rd l0_0 x36_3) < (x3_2.length : Int):=of_decide_eq_true (by first|(with_reducible assumption)|assumption)
                         obtain ⟨ad158,e158,hx158_0⟩:=Kd.at_int (zW HO_3.out).2.2 (rd l0_0 x36_3) p158 q158
                         cases e158
                         replace p158:=eq_true p158
                         replace q158:=eq_true q158
                         have p159 : 0 ≤ (x36_3 : Int):=of_decide_eq_true (by first|(with_reducible assumption)|assumption)
                         have q159 : x36_3 < (l0_3.length : Int):=of_decide_eq_true (by first|(with_reducible assumption)|assumption)
                         obtain ⟨ad159,A159_0,c159_0,e159,hx159_0,hl159_0,hi159_0⟩:=at_L3 HR0_3.out x36_3 p159 q159
                         cases e159
                         replace hx159_0:=(HB.out.cell (World.block_lt_of_cell? w _ hx159_0)).trans hx159_0
                         have HR159_0:=zm hi159_0
                         have HC159_0:=zm hl159_0
                         clear hi159_0 hl159_0
                         replace p159:=eq_true p159
                         replace q159:=eq_true q159
                         go_wp2_with (first|((with_reducible refine gate_callee (f:=20) rfl ?_);refine goesL_ (some 69) rfl rfl Try.func20 (by kernel_rfl) rfl #[.slice A159_0 (rd_L3 l0_3 x36_3).length c159_0,.int .i64 ji67] rfl (by (try simp only [List.map_toArray,List.map_cons,List.map_nil]);first|done|(simp only [hji67];rfl)|rfl|(simp only [List.length_drop,List.length_take];rfl)) ?_;(with_reducible refine (impl_can.calls k3 _ _ (rd_L3 l0_3 x36_3) ji67 t160 _ ?side1 ?side2 A69.out).mono ?_);(case side1=>repeat (first|exact (zY HR159_0.out HB.out)|(with_reducible refine zT ?_ _)|(with_reducible refine zU ?_ _)|(with_reducible refine zV ?_)));(case side2=>exact HC159_0.out);rintro e w' ⟨rfl,⟨nd,rfl⟩⟩;refine ⟨_,rfl,?_⟩;(try (rw [drewN_self wr];generalize hq_ : World.drewN wr _ = wr;have n0_ : Aside0 (Kd.R (Kd.int .i64) 3 wr w.heap.size (fun k_=>some k_ ≠ (.slice (some ad158) x3_2.length co23 : Value).ownBlock∧some k_ ≠ (v143 : Value).ownBlock) v134 x2_3):=⟨by rw [← hq_];exact (by (with_reducible repeat (first|apply zP|apply zQ|apply zR));exact HO_2.out)⟩;have n1_ : Aside0 (Kd.R (Kd.int .i64) 3 wr w.heap.size (fun k_=>some k_ ≠ (v134 : Value).ownBlock∧some k_ ≠ (v143 : Value).ownBlock) (.slice (some ad158) x3_2.length co23) x3_2):=⟨by rw [← hq_];exact (by (with_reducible repeat (first|apply zP|apply zQ|apply zR));exact HO_3.out)⟩;have n2_ : Aside0 (Kd.R (Kd.int .i64) 3 wr w.heap.size (fun k_=>some k_ ≠ (v134 : Value).ownBlock∧some k_ ≠ (.slice (some ad158) x3_2.length co23 : Value).ownBlock) v143 x7_3):=⟨by rw [← hq_];exact (by (with_reducible repeat (first|apply zP|apply zQ|apply zR));exact HO_7.out)⟩;have n3_ : Aside0 (wr.heap[gb132]? = some (.cells #[.slice (some ad146) l0_0.length c0_0,.slice A0_1 l0_1.length c0_1,.slice (some ad145) l0_2.length c0_2,.slice (some ad159) l0_3.length c0_3] 29 (0,0))):=⟨by rw [← hq_];exact (by (with_reducible repeat (first|refine zH ?_ _|refine zI ?_|refine zG ?_ _));exact BK132.out)⟩;have n4_ : Aside0 (Below w.heap.size w wr):=⟨by rw [← hq_];exact (by repeat (first|(with_reducible first|exact HB.out|apply zA|apply zB|apply zC|refine zF ?_ GE132.out)|exact HB.out))⟩;clear HO_2 HO_3 HO_7 BK132 HB hq_;have HO_2:=n0_;have HO_3:=n1_;have HO_7:=n2_;have BK132:=n3_;have HB:=n4_;clear n0_ n1_ n2_ n3_ n4_));obtain ⟨Ao87,co87,eo87⟩:=zAb HO_2.out;subst eo87;have p163 : 0 ≤ (x36_3 : Int):=of_decide_eq_true (by first|(with_reducible assumption)|assumption);have q163 : x36_3 < (x2_3.length : Int):=of_decide_eq_true (by first|(with_reducible assumption)|assumption);obtain ⟨ad163,e163,hx163_0⟩:=Kd.at_int (zW HO_2.out).2.2 x36_3 p163 q163;cases e163;replace p163:=eq_true p163;replace q163:=eq_true q163;have p164 : 0 ≤ (x36_3 : Int):=of_decide_eq_true (by first|(with_reducible assumption)|assumption);have q164 : x36_3 < (x3_2.length : Int):=of_decide_eq_true (by first|(with_reducible assumption)|assumption);obtain ⟨ad164,e164,hx164_0⟩:=Kd.at_int (zW HO_3.out).2.2 x36_3 p164 q164;obtain rfl : ad158 = ad164:=(by injection e164);replace p164:=eq_true p164;replace q164:=eq_true q164;have p83 : 0 ≤ (x36_3 : Int):=of_decide_eq_true (by first|(with_reducible assumption)|assumption);have q83 : (x36_3 : Int) < ((x2_3.length : Int) : Int):=of_decide_eq_true (by first|(with_reducible assumption)|assumption);obtain ⟨go83,co83,eo83,gb83,gl83,cl83,HG83⟩:=Kd.R_form HO_2.out (by omega);(first|cases eo83|(injection eo83 with ea_ en_ ec_;(first|subst ea_|(injection ea_ with ea_;subst ea_));subst ec_;clear en_));have GB83:=zm gb83;have GG83:=zm HG83;clear gb83 gl83 HG83;(first|simp only [add_plain] at hx163_0|skip);obtain ⟨hx83_0,hf83_0⟩:=Kd.R_celln 0 HO_2.out (x36_3 : Int) p83 q83;replace p83:=eq_true p83;replace q83:=eq_true q83;obtain ⟨hy88_,hz88_⟩:=Kd.R_celln 0 HO_2.out (x36_3 : Int) (of_decide_eq_true (by first|(with_reducible assumption)|assumption)) (of_decide_eq_true (by first|(with_reducible assumption)|assumption));have HP88:=Kd.R_putg HO_2.out (x36_3 : Int) ji67)|((with_reducible refine gate_store (t:=3) (p:=93) rfl ?_);refine store_event (t:=3) (p:=93) (v:=?vo_w89) (w1:=(wr.setCell ⟨go83,(x36_3 : Int).toNat,none⟩ (.int .i64 ji67))) ?hg ?ho ?hn ?hr ?_;(case ho=>rfl);(case hg=>rfl);(case hn=>rfl);(case hr=>first|(go_simp;done)|(go_simp;rfl));intro w89 hw;have hg : wr.grownBy w89 (some go83):=(by rw [hw];exact HP88.2);have hp_ : Kd.R (Kd.int .i64) 3 w89 w.heap.size (fun k_=>some k_ ≠ (.slice (some ad158) x3_2.length co23 : Value).ownBlock∧some k_ ≠ (v143 : Value).ownBlock) (.slice (some ⟨go83,0,none⟩) x2_3.length co87) y165:=(by rw [hw,Ny165.out];exact HP88.1);clear HP88;have n0_:=zm (hp_);have n1_:=zm (Kd.R_after (v:=(.slice (some ⟨go83,0,none⟩) x2_3.length co87)) (v1:=(.slice (some ⟨go83,0,none⟩) x2_3.length co87)) (ok:=(fun k_=>some k_ ≠ (v143 : Value).ownBlock)) (by (with_reducible repeat (first|apply zP|apply zQ|apply zR));exact zS HO_3.out (fun _ hk=>⟨hk.2,hk.1⟩)) hg (.inl rfl));have n2_:=zm (Kd.R_after (v:=(.slice (some ⟨go83,0,none⟩) x2_3.length co87)) (v1:=(.slice (some ⟨go83,0,none⟩) x2_3.length co87)) (ok:=(fun k_=>some k_ ≠ (.slice (some ad158) x3_2.length co23 : Value).ownBlock)) (by (with_reducible repeat (first|apply zP|apply zQ|apply zR));exact zS HO_7.out (fun _ hk=>⟨hk.2,hk.1⟩)) hg (.inl rfl));have n3_:=zm (blk_grown (g:=gb132) (o:=.cells #[.slice (some ad146) l0_0.length c0_0,.slice A0_1 l0_1.length c0_1,.slice (some ad145) l0_2.length c0_2,.slice (some ad159) l0_3.length c0_3] 29 (0,0)) (by (with_reducible repeat (first|refine zH ?_ _|refine zI ?_|refine zG ?_ _));exact BK132.out) hg (Kd.R_ne HO_2.out BK132.out (by decide)));have n4_:=zm ((by rw [hw];exact zF (HB.out) GB83.out : Below w.heap.size w w89));clear HO_2;clear HO_3;clear HO_7;clear BK132;clear HB;have HO_2:=n0_;have HO_3:=n1_;have HO_7:=n2_;have BK132:=n3_;have HB:=n4_;clear n0_ n1_ n2_ n3_ n4_;clear hg hw hp_;have p85 : 0 ≤ (x36_3 : Int):=of_decide_eq_true (by first|(with_reducible assumption)|assumption);have q85 : (x36_3 : Int) < ((x7_3.length : Int) : Int):=of_decide_eq_true (by first|(with_reducible assumption)|assumption);obtain ⟨go85,co85,eo85,gb85,gl85,cl85,HG85⟩:=Kd.R_form HO_7.out (by omega);(first|cases eo85|(injection eo85 with ea_ en_ ec_;(first|subst ea_|(injection ea_ with ea_;subst ea_));subst ec_;clear en_));have GB85:=zm gb85;have GG85:=zm HG85;clear gb85 gl85 HG85;obtain ⟨hx85_0,hf85_0⟩:=Kd.R_celln 0 HO_7.out (x36_3 : Int) p85 q85;replace p85:=eq_true p85;replace q85:=eq_true q85;obtain ⟨hy90_,hz90_⟩:=Kd.R_celln 0 HO_7.out (x36_3 : Int) (of_decide_eq_true (by first|(with_reducible assumption)|assumption)) (of_decide_eq_true (by first|(with_reducible assumption)|assumption));have HP90:=Kd.R_putg HO_7.out (x36_3 : Int) t160)|((with_reducible refine gate_store (t:=3) (p:=94) rfl ?_);refine store_event (t:=3) (p:=94) (v:=?vo_w91) (w1:=(w89.setCell ⟨go85,(x36_3 : Int).toNat,none⟩ (.int .i64 t160))) ?hg ?ho ?hn ?hr ?_;(case ho=>rfl);(case hg=>rfl);(case hn=>rfl);(case hr=>first|(go_simp;done)|(go_simp;rfl));intro w91 hw;have hg : w89.grownBy w91 (some go85):=(by rw [hw];exact HP90.2);have hp_ : Kd.R (Kd.int .i64) 3 w91 w.heap.size (fun k_=>some k_ ≠ (.slice (some ad158) x3_2.length co23 : Value).ownBlock∧some k_ ≠ (.slice (some ⟨go83,0,none⟩) x2_3.length co87 : Value).ownBlock) (.slice (some ⟨go85,0,none⟩) x7_3.length co85) y166:=(by rw [hw,Ny166.out];exact HP90.1);clear HP90;have n0_:=zm (Kd.R_after (v:=(.slice (some ⟨go85,0,none⟩) x7_3.length co85)) (v1:=(.slice (some ⟨go85,0,none⟩) x7_3.length co85)) (ok:=(fun k_=>some k_ ≠ (.slice (some ad158) x3_2.length co23 : Value).ownBlock)) (by (with_reducible repeat (first|apply zP|apply zQ|apply zR));exact HO_2.out) hg (.inl rfl));have n1_:=zm (Kd.R_after (v:=(.slice (some ⟨go85,0,none⟩) x7_3.length co85)) (v1:=(.slice (some ⟨go85,0,none⟩) x7_3.length co85)) (ok:=(fun k_=>some k_ ≠ (.slice (some ⟨go83,0,none⟩) x2_3.length co87 : Value).ownBlock)) (by (with_reducible repeat (first|apply zP|apply zQ|apply zR));exact zS HO_3.out (fun _ hk=>⟨hk.2,hk.1⟩)) hg (.inl rfl));have n2_:=zm (hp_);have n3_:=zm (blk_grown (g:=gb132) (o:=.cells #[.slice (some ad146) l0_0.length c0_0,.slice A0_1 l0_1.length c0_1,.slice (some ad145) l0_2.length c0_2,.slice (some ad159) l0_3.length c0_3] 29 (0,0)) (by (with_reducible repeat (first|refine zH ?_ _|refine zI ?_|refine zG ?_ _));exact BK132.out) hg (Kd.R_ne HO_7.out BK132.out (by decide)));have n4_:=zm ((by rw [hw];exact zF (HB.out) GB85.out : Below w.heap.size w w91));clear HO_2;clear HO_3;clear HO_7;clear BK132;clear HB;have HO_2:=n0_;have HO_3:=n1_;have HO_7:=n2_;have BK132:=n3_;have HB:=n4_;clear n0_ n1_ n2_ n3_ n4_;clear hg hw hp_))
                         go_roundg k3
                         case measure=>have:=HK1.out;have:=HK2.out;have:=HK3.out;omega
                         case rel=>exact ⟨(y165),((t160 != (rd x3_2 x36_3))),(y166),(wrap64 (x36_3 + 1)),(by first|rfl|(simp;done)|(simp [*];done)),(by first|rfl|(simp;done)|(simp [*];done)),H',⟨by have:=HK1.out;have:=HK2.out;have:=HK3.out;omega⟩,⟨by (with_reducible repeat (first|apply zP|apply zQ|apply zR));exact HO_2.out⟩,⟨by (with_reducible repeat (first|apply zP|apply zQ|apply zR));exact HO_3.out⟩,⟨by (with_reducible repeat (first|apply zP|apply zQ|apply zR));exact zS HO_7.out (fun _ hk=>⟨hk.2,hk.1⟩)⟩,⟨by (with_reducible repeat (first|refine zH ?_ _|refine zI ?_|refine zG ?_ _));exact BK132.out⟩,⟨by repeat (first|(with_reducible first|exact HB.out|apply zA|apply zB|apply zC|refine zF ?_ GE132.out)|exact HB.out)⟩⟩
                        ·rw [if_neg c84] at H
                         exact absurd H (by simp)
                       ·rw [if_neg c82] at H
                        exact absurd H (by simp)
                      ·rw [if_neg c81] at H
                       have c81b0 : ((ji67) == (rd x2_3 x36_3)) = false:=beq_eq_false_iff_ne.mpr c81
                       have c81b1 : ((ji67) != (rd x2_3 x36_3)) = true:=bne_iff_ne.mpr c81
                       obtain ⟨y167,hy167⟩ : ∃ y_ : List Int,y_ = (x2_3.set (x36_3 : Int).toNat (ji67)):=⟨_,rfl⟩
                       replace H : (if x36_3 < (x7_3.length : Int) then (impl_work.l2 k3 y167 x3_2 (l0_0.length : Int) true (x7_3.set (x36_3 : Int).toNat t160) (l0_0.length : Int) (wrap64 (x36_3 + 1)) l0_0 l0_1 l0_2 l0_3) else (none)) = some (r1,r2):=by first|(rw [hy167];with_reducible exact H)|(have H2_:=(Option.bind_some _ _).symm.trans H;rw [hy167];with_reducible exact H2_)|(have H2_:=(Option.bind_some _ _).symm.trans H;with_reducible exact H2_)|with_reducible exact H|(rw [hy167];exact H)|exact H
                       have Ny167:=zm hy167
                       clear hy167
                       by_cases c93 : x36_3 < (x7_3.length : Int)
                       ·rw [if_pos c93] at H
                        have c93b0 : decide (x36_3 < (x7_3.length : Int)) = true:=decide_eq_true c93
                        clear c93
                        obtain ⟨y168,hy168⟩ : ∃ y_ : List Int,y_ = (x7_3.set (x36_3 : Int).toNat t160):=⟨_,rfl⟩
                        replace H : (impl_work.l2 k3 y167 x3_2 (l0_0.length : Int) true y168 (l0_0.length : Int) (wrap64 (x36_3 + 1)) l0_0 l0_1 l0_2 l0_3) = some (r1,r2):=by first|(rw [hy168];with_reducible exact H)|(have H2_:=(Option.bind_some _ _).symm.trans H;rw [hy168];with_reducible exact H2_)|(have H2_:=(Option.bind_some _ _).symm.trans H;with_reducible exact H2_)|with_reducible exact H|(rw [hy168];exact H)|exact H
                        have Ny168:=zm hy168
                        clear hy168
                        have H':=zm H
                        clear H
                        have hcz95_0 : wr.cell? ⟨gb132,0,none⟩ = some (.slice A0_0 l0_0.length c0_0):=(zD BK132.out 0).trans rfl
                        have hcz95_1 : wr.cell? ⟨gb132,1,none⟩ = some (.slice A0_1 l0_1.length c0_1):=(zD BK132.out 1).trans rfl
                        have hcz95_2 : wr.cell? ⟨gb132,2,none⟩ = some (.slice A0_2 l0_2.length c0_2):=(zD BK132.out 2).trans rfl
                        have hcz95_3 : wr.cell? ⟨gb132,3,none⟩ = some (.slice A0_3 l0_3.length c0_3):=(zD BK132.out 3).trans rfl
                        have hfz95_0:=zE BK132.out 0
                        have hfz95_1:=zE BK132.out 1
                        have hfz95_2:=zE BK132.out 2
                        have hfz95_3:=zE BK132.out 3
                        have p145 : 0 ≤ (x36_3 : Int):=of_decide_eq_true (by first|(with_reducible assumption)|assumption)
                        have q145 : x36_3 < (l0_2.length : Int):=of_decide_eq_true (by first|(with_reducible assumption)|assumption)
                        obtain ⟨ad145,e145,hx145_0⟩:=Kd.at_bool HR0_2.out x36_3 p145 q145
                        (try rw [← Nbq28.out] at hx145_0)
                        cases e145
                        replace hx145_0:=(HB.out.cell (World.block_lt_of_cell? w _ hx145_0)).trans hx145_0
                        replace p145:=eq_true p145
                        replace q145:=eq_true q145
                        have p146 : 0 ≤ (x36_3 : Int):=of_decide_eq_true (by first|(with_reducible assumption)|assumption)
                        have q146 : x36_3 < (l0_0.length : Int):=of_decide_eq_true (by first|(with_reducible assumption)|assumption)
                        obtain ⟨ad146,e146,hx146_0⟩:=Kd.at_int HR0_0.out x36_3 p146 q146
                        cases e146
                        replace hx146_0:=(HB.out.cell (World.block_lt_of_cell? w _ hx146_0)).trans hx146_0
                        replace p146:=eq_true p146
                        replace q146:=eq_true q146
                        have p157 : 0 ≤ (x36_3 : Int):=of_decide_eq_true (by first|(with_reducible assumption)|assumption)
                        have q157 : x36_3 < (l0_0.length : Int):=of_decide_eq_true (by first|(with_reducible assumption)|assumption)
                        obtain ⟨ad157,e157,hx157_0⟩:=Kd.at_int HR0_0.out x36_3 p157 q157
                        obtain rfl : ad146 = ad157:=(by injection e157)
                        replace hx157_0:=(HB.out.cell (World.block_lt_of_cell? w _ hx157_0)).trans hx157_0
                        replace p157:=eq_true p157
                        replace q157:=eq_true q157
                        have p158 : 0 ≤ ((rd l0_0 x36_3) : Int):=of_decide_eq_true (by first|(with_reducible assumption)|assumption)
                        have q158 : (rd l0_0 x36_3) < (x3_2.length : Int):=of_decide_eq_true (by first|(with_reducible assumption)|assumption)
                        obtain ⟨ad158,e158,hx158_0⟩:=Kd.at_int (zW HO_3.out).2.2 (rd l0_0 x36_3) p158 q158
                        cases e158
                        replace p158:=eq_true p158
                        replace q158:=eq_true q158
                        have p159 : 0 ≤ (x36_3 : Int):=of_decide_eq_true (by first|(with_reducible assumption)|assumption)
                        have q159 : x36_3 < (l0_3.length : Int):=of_decide_eq_true (by first|(with_reducible assumption)|assumption)
                        obtain ⟨ad159,A159_0,c159_0,e159,hx159_0,hl159_0,hi159_0⟩:=at_L3 HR0_3.out x36_3 p159 q159
                        cases e159
                        replace hx159_0:=(HB.out.cell (World.block_lt_of_cell? w _ hx159_0)).trans hx159_0
                        have HR159_0:=zm hi159_0
                        have HC159_0:=zm hl159_0
                        clear hi159_0 hl159_0
                        replace p159:=eq_true p159
                        replace q159:=eq_true q159
                        go_wp2_with (first|((with_reducible refine gate_callee (f:=20) rfl ?_);refine goesL_ (some 69) rfl rfl Try.func20 (by kernel_rfl) rfl #[.slice A159_0 (rd_L3 l0_3 x36_3).length c159_0,.int .i64 ji67] rfl (by (try simp only [List.map_toArray,List.map_cons,List.map_nil]);first|done|(simp only [hji67];rfl)|rfl|(simp only [List.length_drop,List.length_take];rfl)) ?_;(with_reducible refine (impl_can.calls k3 _ _ (rd_L3 l0_3 x36_3) ji67 t160 _ ?side1 ?side2 A69.out).mono ?_);(case side1=>repeat (first|exact (zY HR159_0.out HB.out)|(with_reducible refine zT ?_ _)|(with_reducible refine zU ?_ _)|(with_reducible refine zV ?_)));(case side2=>exact HC159_0.out);rintro e w' ⟨rfl,⟨nd,rfl⟩⟩;refine ⟨_,rfl,?_⟩;(try (rw [drewN_self wr];generalize hq_ : World.drewN wr _ = wr;have n0_ : Aside0 (Kd.R (Kd.int .i64) 3 wr w.heap.size (fun k_=>some k_ ≠ (.slice (some ad158) x3_2.length co23 : Value).ownBlock∧some k_ ≠ (v143 : Value).ownBlock) v134 x2_3):=⟨by rw [← hq_];exact (by (with_reducible repeat (first|apply zP|apply zQ|apply zR));exact HO_2.out)⟩;have n1_ : Aside0 (Kd.R (Kd.int .i64) 3 wr w.heap.size (fun k_=>some k_ ≠ (v134 : Value).ownBlock∧some k_ ≠ (v143 : Value).ownBlock) (.slice (some ad158) x3_2.length co23) x3_2):=⟨by rw [← hq_];exact (by (with_reducible repeat (first|apply zP|apply zQ|apply zR));exact HO_3.out)⟩;have n2_ : Aside0 (Kd.R (Kd.int .i64) 3 wr w.heap.size (fun k_=>some k_ ≠ (v134 : Value).ownBlock∧some k_ ≠ (.slice (some ad158) x3_2.length co23 : Value).ownBlock) v143 x7_3):=⟨by rw [← hq_];exact (by (with_reducible repeat (first|apply zP|apply zQ|apply zR));exact HO_7.out)⟩;have n3_ : Aside0 (wr.heap[gb132]? = some (.cells #[.slice (some ad146) l0_0.length c0_0,.slice A0_1 l0_1.length c0_1,.slice (some ad145) l0_2.length c0_2,.slice (some ad159) l0_3.length c0_3] 29 (0,0))):=⟨by rw [← hq_];exact (by (with_reducible repeat (first|refine zH ?_ _|refine zI ?_|refine zG ?_ _));exact BK132.out)⟩;have n4_ : Aside0 (Below w.heap.size w wr):=⟨by rw [← hq_];exact (by repeat (first|(with_reducible first|exact HB.out|apply zA|apply zB|apply zC|refine zF ?_ GE132.out)|exact HB.out))⟩;clear HO_2 HO_3 HO_7 BK132 HB hq_;have HO_2:=n0_;have HO_3:=n1_;have HO_7:=n2_;have BK132:=n3_;have HB:=n4_;clear n0_ n1_ n2_ n3_ n4_));obtain ⟨Ao96,co96,eo96⟩:=zAb HO_2.out;subst eo96;have p163 : 0 ≤ (x36_3 : Int):=of_decide_eq_true (by first|(with_reducible assumption)|assumption);have q163 : x36_3 < (x2_3.length : Int):=of_decide_eq_true (by first|(with_reducible assumption)|assumption);obtain ⟨ad163,e163,hx163_0⟩:=Kd.at_int (zW HO_2.out).2.2 x36_3 p163 q163;cases e163;replace p163:=eq_true p163;replace q163:=eq_true q163;have p92 : 0 ≤ (x36_3 : Int):=of_decide_eq_true (by first|(with_reducible assumption)|assumption);have q92 : (x36_3 : Int) < ((x2_3.length : Int) : Int):=of_decide_eq_true (by first|(with_reducible assumption)|assumption);obtain ⟨go92,co92,eo92,gb92,gl92,cl92,HG92⟩:=Kd.R_form HO_2.out (by omega);(first|cases eo92|(injection eo92 with ea_ en_ ec_;(first|subst ea_|(injection ea_ with ea_;subst ea_));subst ec_;clear en_));have GB92:=zm gb92;have GG92:=zm HG92;clear gb92 gl92 HG92;(first|simp only [add_plain] at hx163_0|skip);obtain ⟨hx92_0,hf92_0⟩:=Kd.R_celln 0 HO_2.out (x36_3 : Int) p92 q92;replace p92:=eq_true p92;replace q92:=eq_true q92;obtain ⟨hy97_,hz97_⟩:=Kd.R_celln 0 HO_2.out (x36_3 : Int) (of_decide_eq_true (by first|(with_reducible assumption)|assumption)) (of_decide_eq_true (by first|(with_reducible assumption)|assumption));have HP97:=Kd.R_putg HO_2.out (x36_3 : Int) ji67)|((with_reducible refine gate_store (t:=3) (p:=93) rfl ?_);refine store_event (t:=3) (p:=93) (v:=?vo_w98) (w1:=(wr.setCell ⟨go92,(x36_3 : Int).toNat,none⟩ (.int .i64 ji67))) ?hg ?ho ?hn ?hr ?_;(case ho=>rfl);(case hg=>rfl);(case hn=>rfl);(case hr=>first|(go_simp;done)|(go_simp;rfl));intro w98 hw;have hg : wr.grownBy w98 (some go92):=(by rw [hw];exact HP97.2);have hp_ : Kd.R (Kd.int .i64) 3 w98 w.heap.size (fun k_=>some k_ ≠ (.slice (some ad158) x3_2.length co23 : Value).ownBlock∧some k_ ≠ (v143 : Value).ownBlock) (.slice (some ⟨go92,0,none⟩) x2_3.length co96) y167:=(by rw [hw,Ny167.out];exact HP97.1);clear HP97;have n0_:=zm (hp_);have n1_:=zm (Kd.R_after (v:=(.slice (some ⟨go92,0,none⟩) x2_3.length co96)) (v1:=(.slice (some ⟨go92,0,none⟩) x2_3.length co96)) (ok:=(fun k_=>some k_ ≠ (v143 : Value).ownBlock)) (by (with_reducible repeat (first|apply zP|apply zQ|apply zR));exact zS HO_3.out (fun _ hk=>⟨hk.2,hk.1⟩)) hg (.inl rfl));have n2_:=zm (Kd.R_after (v:=(.slice (some ⟨go92,0,none⟩) x2_3.length co96)) (v1:=(.slice (some ⟨go92,0,none⟩) x2_3.length co96)) (ok:=(fun k_=>some k_ ≠ (.slice (some ad158) x3_2.length co23 : Value).ownBlock)) (by (with_reducible repeat (first|apply zP|apply zQ|apply zR));exact zS HO_7.out (fun _ hk=>⟨hk.2,hk.1⟩)) hg (.inl rfl));have n3_:=zm (blk_grown (g:=gb132) (o:=.cells #[.slice (some ad146) l0_0.length c0_0,.slice A0_1 l0_1.length c0_1,.slice (some ad145) l0_2.length c0_2,.slice (some ad159) l0_3.length c0_3] 29 (0,0)) (by (with_reducible repeat (first|refine zH ?_ _|refine zI ?_|refine zG ?_ _));exact BK132.out) hg (Kd.R_ne HO_2.out BK132.out (by decide)));have n4_:=zm ((by rw [hw];exact zF (HB.out) GB92.out : Below w.heap.size w w98));clear HO_2;clear HO_3;clear HO_7;clear BK132;clear HB;have HO_2:=n0_;have HO_3:=n1_;have HO_7:=n2_;have BK132:=n3_;have HB:=n4_;clear n0_ n1_ n2_ n3_ n4_;clear hg hw hp_;have p94 : 0 ≤ (x36_3 : Int):=of_decide_eq_true (by first|(with_reducible assumption)|assumption);have q94 : (x36_3 : Int) < ((x7_3.length : Int) : Int):=of_decide_eq_true (by first|(with_reducible assumption)|assumption);obtain ⟨go94,co94,eo94,gb94,gl94,cl94,HG94⟩:=Kd.R_form HO_7.out (by omega);(first|cases eo94|(injection eo94 with ea_ en_ ec_;(first|subst ea_|(injection ea_ with ea_;subst ea_));subst ec_;clear en_));have GB94:=zm gb94;have GG94:=zm HG94;clear gb94 gl94 HG94;obtain ⟨hx94_0,hf94_0⟩:=Kd.R_celln 0 HO_7.out (x36_3 : Int) p94 q94;replace p94:=eq_true p94;replace q94:=eq_true q94;obtain ⟨hy99_,hz99_⟩:=Kd.R_celln 0 HO_7.out (x36_3 : Int) (of_decide_eq_true (by first|(with_reducible assumption)|assumption)) (of_decide_eq_true (by first|(with_reducible assumption)|assumption));have HP99:=Kd.R_putg HO_7.out (x36_3 : Int) t160)|((with_reducible refine gate_store (t:=3) (p:=94) rfl ?_);refine store_event (t:=3) (p:=94) (v:=?vo_w100) (w1:=(w98.setCell ⟨go94,(x36_3 : Int).toNat,none⟩ (.int .i64 t160))) ?hg ?ho ?hn ?hr ?_;(case ho=>rfl);(case hg=>rfl);(case hn=>rfl);(case hr=>first|(go_simp;done)|(go_simp;rfl));intro w100 hw;have hg : w98.grownBy w100 (some go94):=(by rw [hw];exact HP99.2);have hp_ : Kd.R (Kd.int .i64) 3 w100 w.heap.size (fun k_=>some k_ ≠ (.slice (some ad158) x3_2.length co23 : Value).ownBlock∧some k_ ≠ (.slice (some ⟨go92,0,none⟩) x2_3.length co96 : Value).ownBlock) (.slice (some ⟨go94,0,none⟩) x7_3.length co94) y168:=(by rw [hw,Ny168.out];exact HP99.1);clear HP99;have n0_:=zm (Kd.R_after (v:=(.slice (some ⟨go94,0,none⟩) x7_3.length co94)) (v1:=(.slice (some ⟨go94,0,none⟩) x7_3.length co94)) (ok:=(fun k_=>some k_ ≠ (.slice (some ad158) x3_2.length co23 : Value).ownBlock)) (by (with_reducible repeat (first|apply zP|apply zQ|apply zR));exact HO_2.out) hg (.inl rfl));have n1_:=zm (Kd.R_after (v:=(.slice (some ⟨go94,0,none⟩) x7_3.length co94)) (v1:=(.slice (some ⟨go94,0,none⟩) x7_3.length co94)) (ok:=(fun k_=>some k_ ≠ (.slice (some ⟨go92,0,none⟩) x2_3.length co96 : Value).ownBlock)) (by (with_reducible repeat (first|apply zP|apply zQ|apply zR));exact zS HO_3.out (fun _ hk=>⟨hk.2,hk.1⟩)) hg (.inl rfl));have n2_:=zm (hp_);have n3_:=zm (blk_grown (g:=gb132) (o:=.cells #[.slice (some ad146) l0_0.length c0_0,.slice A0_1 l0_1.length c0_1,.slice (some ad145) l0_2.length c0_2,.slice (some ad159) l0_3.length c0_3] 29 (0,0)) (by (with_reducible repeat (first|refine zH ?_ _|refine zI ?_|refine zG ?_ _));exact BK132.out) hg (Kd.R_ne HO_7.out BK132.out (by decide)));have n4_:=zm ((by rw [hw];exact zF (HB.out) GB94.out : Below w.heap.size w w100));clear HO_2;clear HO_3;clear HO_7;clear BK132;clear HB;have HO_2:=n0_;have HO_3:=n1_;have HO_7:=n2_;have BK132:=n3_;have HB:=n4_;clear n0_ n1_ n2_ n3_ n4_;clear hg hw hp_))
                        go_roundg k3
                        case measure=>have:=HK1.out;have:=HK2.out;have:=HK3.out;omega
                        case rel=>exact ⟨(y167),(true),(y168),(wrap64 (x36_3 + 1)),(by first|rfl|(simp;done)|(simp [*];done)),(by first|rfl|(simp;done)|(simp [*];done)),H',⟨by have:=HK1.out;have:=HK2.out;have:=HK3.out;omega⟩,⟨by (with_reducible repeat (first|apply zP|apply zQ|apply zR));exact HO_2.out⟩,⟨by (with_reducible repeat (first|apply zP|apply zQ|apply zR));exact HO_3.out⟩,⟨by (with_reducible repeat (first|apply zP|apply zQ|apply zR));exact zS HO_7.out (fun _ hk=>⟨hk.2,hk.1⟩)⟩,⟨by (with_reducible repeat (first|refine zH ?_ _|refine zI ?_|refine zG ?_ _));exact BK132.out⟩,⟨by repeat (first|(with_reducible first|exact HB.out|apply zA|apply zB|apply zC|refine zF ?_ GE132.out)|exact HB.out)⟩⟩
                       ·rw [if_neg c93] at H
                        exact absurd H (by simp)
                     ·rw [if_neg c80] at H
                      exact absurd H (by simp)
                   ·rw [if_neg c68] at H
                    exact absurd H (by simp)
                  ·rw [if_neg c66] at H
                   exact absurd H (by simp)
                 ·rw [if_neg c65] at H
                  exact absurd H (by simp)
               ·rw [if_neg c30] at H
                exact absurd H (by simp)
              ·replace c29:=Bool.eq_false_iff.mpr c29
               subst c29
               have H1 : (if x36_3 < (l0_3.length : Int) then ((impl_can.f k3 (rd_L3 l0_3 x36_3) 0).bind fun t170=>(if x6_3 = true then (if x36_3 < (x2_3.length : Int) then (if x36_3 < (x7_3.length : Int) then (impl_work.l2 k3 (x2_3.set (x36_3 : Int).toNat 0) x3_2 (l0_0.length : Int) true (x7_3.set (x36_3 : Int).toNat t170) (l0_0.length : Int) (wrap64 (x36_3 + 1)) l0_0 l0_1 l0_2 l0_3) else (none)) else (none)) else (if x36_3 < (x2_3.length : Int) then (if 0 = (rd x2_3 x36_3) then (if x36_3 < (x3_2.length : Int) then (if x36_3 < (x7_3.length : Int) then (impl_work.l2 k3 (x2_3.set (x36_3 : Int).toNat 0) x3_2 (l0_0.length : Int) (t170 != (rd x3_2 x36_3)) (x7_3.set (x36_3 : Int).toNat t170) (l0_0.length : Int) (wrap64 (x36_3 + 1)) l0_0 l0_1 l0_2 l0_3) else (none)) else (none)) else (if x36_3 < (x7_3.length : Int) then (impl_work.l2 k3 (x2_3.set (x36_3 : Int).toNat 0) x3_2 (l0_0.length : Int) true (x7_3.set (x36_3 : Int).toNat t170) (l0_0.length : Int) (wrap64 (x36_3 + 1)) l0_0 l0_1 l0_2 l0_3) else (none))) else (none)))) else (none)) = some (r1,r2):=by rw [if_neg (show ¬ (false = true) by decide)] at H;exact H
               clear H
               have H:=H1
               clear H1
               by_cases c101 : x36_3 < (l0_3.length : Int)
               ·rw [if_pos c101] at H
                have c101b0 : decide (x36_3 < (l0_3.length : Int)) = true:=decide_eq_true c101
                clear c101
                replace H:=Option.bind_eq_some_iff.mp H
                obtain ⟨t170,A1020,H⟩:=H
                replace H : (if x6_3 = true then (if x36_3 < (x2_3.length : Int) then (if x36_3 < (x7_3.length : Int) then (impl_work.l2 k3 (x2_3.set (x36_3 : Int).toNat 0) x3_2 (l0_0.length : Int) true (x7_3.set (x36_3 : Int).toNat t170) (l0_0.length : Int) (wrap64 (x36_3 + 1)) l0_0 l0_1 l0_2 l0_3) else (none)) else (none)) else (if x36_3 < (x2_3.length : Int) then (if 0 = (rd x2_3 x36_3) then (if x36_3 < (x3_2.length : Int) then (if x36_3 < (x7_3.length : Int) then (impl_work.l2 k3 (x2_3.set (x36_3 : Int).toNat 0) x3_2 (l0_0.length : Int) (t170 != (rd x3_2 x36_3)) (x7_3.set (x36_3 : Int).toNat t170) (l0_0.length : Int) (wrap64 (x36_3 + 1)) l0_0 l0_1 l0_2 l0_3) else (none)) else (none)) else (if x36_3 < (x7_3.length : Int) then (impl_work.l2 k3 (x2_3.set (x36_3 : Int).toNat 0) x3_2 (l0_0.length : Int) true (x7_3.set (x36_3 : Int).toNat t170) (l0_0.length : Int) (wrap64 (x36_3 + 1)) l0_0 l0_1 l0_2 l0_3) else (none))) else (none))) = some (r1,r2):=H
                have A102:=zm A1020
                clear A1020
                by_cases c103 : x6_3 = true
                ·subst c103
                 have H1 : (if x36_3 < (x2_3.length : Int) then (if x36_3 < (x7_3.length : Int) then (impl_work.l2 k3 (x2_3.set (x36_3 : Int).toNat 0) x3_2 (l0_0.length : Int) true (x7_3.set (x36_3 : Int).toNat t170) (l0_0.length : Int) (wrap64 (x36_3 + 1)) l0_0 l0_1 l0_2 l0_3) else (none)) else (none)) = some (r1,r2):=by rw [if_pos rfl] at H;exact H
                 clear H
                 have H:=H1
                 clear H1
                 by_cases c104 : x36_3 < (x2_3.length : Int)
                 ·rw [if_pos c104] at H
                  have c104b0 : decide (x36_3 < (x2_3.length : Int)) = true:=decide_eq_true c104
                  clear c104
                  obtain ⟨y171,hy171⟩ : ∃ y_ : List Int,y_ = (x2_3.set (x36_3 : Int).toNat 0):=⟨_,rfl⟩
                  replace H : (if x36_3 < (x7_3.length : Int) then (impl_work.l2 k3 y171 x3_2 (l0_0.length : Int) true (x7_3.set (x36_3 : Int).toNat t170) (l0_0.length : Int) (wrap64 (x36_3 + 1)) l0_0 l0_1 l0_2 l0_3) else (none)) = some (r1,r2):=by first|(rw [hy171];with_reducible exact H)|(have H2_:=(Option.bind_some _ _).symm.trans H;rw [hy171];with_reducible exact H2_)|(have H2_:=(Option.bind_some _ _).symm.trans H;with_reducible exact H2_)|with_reducible exact H|(rw [hy171];exact H)|exact H
                  have Ny171:=zm hy171
                  clear hy171
                  by_cases c106 : x36_3 < (x7_3.length : Int)
                  ·rw [if_pos c106] at H
                   have c106b0 : decide (x36_3 < (x7_3.length : Int)) = true:=decide_eq_true c106
                   clear c106
                   obtain ⟨y172,hy172⟩ : ∃ y_ : List Int,y_ = (x7_3.set (x36_3 : Int).toNat t170):=⟨_,rfl⟩
                   replace H : (impl_work.l2 k3 y171 x3_2 (l0_0.length : Int) true y172 (l0_0.length : Int) (wrap64 (x36_3 + 1)) l0_0 l0_1 l0_2 l0_3) = some (r1,r2):=by first|(rw [hy172];with_reducible exact H)|(have H2_:=(Option.bind_some _ _).symm.trans H;rw [hy172];with_reducible exact H2_)|(have H2_:=(Option.bind_some _ _).symm.trans H;with_reducible exact H2_)|with_reducible exact H|(rw [hy172];exact H)|exact H
                   have Ny172:=zm hy172
                   clear hy172
                   have H':=zm H
                   clear H
                   have hcz108_0 : wr.cell? ⟨gb132,0,none⟩ = some (.slice A0_0 l0_0.length c0_0):=(zD BK132.out 0).trans rfl
                   have hcz108_1 : wr.cell? ⟨gb132,1,none⟩ = some (.slice A0_1 l0_1.length c0_1):=(zD BK132.out 1).trans rfl
                   have hcz108_2 : wr.cell? ⟨gb132,2,none⟩ = some (.slice A0_2 l0_2.length c0_2):=(zD BK132.out 2).trans rfl
                   have hcz108_3 : wr.cell? ⟨gb132,3,none⟩ = some (.slice A0_3 l0_3.length c0_3):=(zD BK132.out 3).trans rfl
                   have hfz108_0:=zE BK132.out 0
                   have hfz108_1:=zE BK132.out 1
                   have hfz108_2:=zE BK132.out 2
                   have hfz108_3:=zE BK132.out 3
                   have p145 : 0 ≤ (x36_3 : Int):=of_decide_eq_true (by first|(with_reducible assumption)|assumption)
                   have q145 : x36_3 < (l0_2.length : Int):=of_decide_eq_true (by first|(with_reducible assumption)|assumption)
                   obtain ⟨ad145,e145,hx145_0⟩:=Kd.at_bool HR0_2.out x36_3 p145 q145
                   (try rw [← Nbq28.out] at hx145_0)
                   cases e145
                   replace hx145_0:=(HB.out.cell (World.block_lt_of_cell? w _ hx145_0)).trans hx145_0
                   replace p145:=eq_true p145
                   replace q145:=eq_true q145
                   have p169 : 0 ≤ (x36_3 : Int):=of_decide_eq_true (by first|(with_reducible assumption)|assumption)
                   have q169 : x36_3 < (l0_3.length : Int):=of_decide_eq_true (by first|(with_reducible assumption)|assumption)
                   obtain ⟨ad169,A169_0,c169_0,e169,hx169_0,hl169_0,hi169_0⟩:=at_L3 HR0_3.out x36_3 p169 q169
                   cases e169
                   replace hx169_0:=(HB.out.cell (World.block_lt_of_cell? w _ hx169_0)).trans hx169_0
                   have HR169_0:=zm hi169_0
                   have HC169_0:=zm hl169_0
                   clear hi169_0 hl169_0
                   replace p169:=eq_true p169
                   replace q169:=eq_true q169
                   go_wp2_with (first|((with_reducible refine gate_callee (f:=20) rfl ?_);refine goesL_ (some 69) rfl rfl Try.func20 (by kernel_rfl) rfl #[.slice A169_0 (rd_L3 l0_3 x36_3).length c169_0,.int .i64 0] rfl (by (try simp only [List.map_toArray,List.map_cons,List.map_nil]);first|done|rfl|(simp only [List.length_drop,List.length_take];rfl)) ?_;(with_reducible refine (impl_can.calls k3 _ _ (rd_L3 l0_3 x36_3) 0 t170 _ ?side1 ?side2 A102.out).mono ?_);(case side1=>repeat (first|exact (zY HR169_0.out HB.out)|(with_reducible refine zT ?_ _)|(with_reducible refine zU ?_ _)|(with_reducible refine zV ?_)));(case side2=>exact HC169_0.out);rintro e w' ⟨rfl,⟨nd,rfl⟩⟩;refine ⟨_,rfl,?_⟩;(try (rw [drewN_self wr];generalize hq_ : World.drewN wr _ = wr;have n0_ : Aside0 (Kd.R (Kd.int .i64) 3 wr w.heap.size (fun k_=>some k_ ≠ (.slice Ao23 x3_2.length co23 : Value).ownBlock∧some k_ ≠ (v143 : Value).ownBlock) v134 x2_3):=⟨by rw [← hq_];exact (by (with_reducible repeat (first|apply zP|apply zQ|apply zR));exact HO_2.out)⟩;have n1_ : Aside0 (Kd.R (Kd.int .i64) 3 wr w.heap.size (fun k_=>some k_ ≠ (v134 : Value).ownBlock∧some k_ ≠ (v143 : Value).ownBlock) (.slice Ao23 x3_2.length co23) x3_2):=⟨by rw [← hq_];exact (by (with_reducible repeat (first|apply zP|apply zQ|apply zR));exact HO_3.out)⟩;have n2_ : Aside0 (Kd.R (Kd.int .i64) 3 wr w.heap.size (fun k_=>some k_ ≠ (v134 : Value).ownBlock∧some k_ ≠ (.slice Ao23 x3_2.length co23 : Value).ownBlock) v143 x7_3):=⟨by rw [← hq_];exact (by (with_reducible repeat (first|apply zP|apply zQ|apply zR));exact HO_7.out)⟩;have n3_ : Aside0 (wr.heap[gb132]? = some (.cells #[.slice A0_0 l0_0.length c0_0,.slice A0_1 l0_1.length c0_1,.slice (some ad145) l0_2.length c0_2,.slice (some ad169) l0_3.length c0_3] 29 (0,0))):=⟨by rw [← hq_];exact (by (with_reducible repeat (first|refine zH ?_ _|refine zI ?_|refine zG ?_ _));exact BK132.out)⟩;have n4_ : Aside0 (Below w.heap.size w wr):=⟨by rw [← hq_];exact (by repeat (first|(with_reducible first|exact HB.out|apply zA|apply zB|apply zC|refine zF ?_ GE132.out)|exact HB.out))⟩;clear HO_2 HO_3 HO_7 BK132 HB hq_;have HO_2:=n0_;have HO_3:=n1_;have HO_7:=n2_;have BK132:=n3_;have HB:=n4_;clear n0_ n1_ n2_ n3_ n4_));have p105 : 0 ≤ (x36_3 : Int):=of_decide_eq_true (by first|(with_reducible assumption)|assumption);have q105 : (x36_3 : Int) < ((x2_3.length : Int) : Int):=of_decide_eq_true (by first|(with_reducible assumption)|assumption);obtain ⟨go105,co105,eo105,gb105,gl105,cl105,HG105⟩:=Kd.R_form HO_2.out (by omega);(first|cases eo105|(injection eo105 with ea_ en_ ec_;(first|subst ea_|(injection ea_ with ea_;subst ea_));subst ec_;clear en_));have GB105:=zm gb105;have GG105:=zm HG105;clear gb105 gl105 HG105;obtain ⟨hx105_0,hf105_0⟩:=Kd.R_celln 0 HO_2.out (x36_3 : Int) p105 q105;replace p105:=eq_true p105;replace q105:=eq_true q105;obtain ⟨hy109_,hz109_⟩:=Kd.R_celln 0 HO_2.out (x36_3 : Int) (of_decide_eq_true (by first|(with_reducible assumption)|assumption)) (of_decide_eq_true (by first|(with_reducible assumption)|assumption));have HP109:=Kd.R_putg HO_2.out (x36_3 : Int) 0)|((with_reducible refine gate_store (t:=3) (p:=93) rfl ?_);refine store_event (t:=3) (p:=93) (v:=?vo_w110) (w1:=(wr.setCell ⟨go105,(x36_3 : Int).toNat,none⟩ (.int .i64 0))) ?hg ?ho ?hn ?hr ?_;(case ho=>rfl);(case hg=>rfl);(case hn=>rfl);(case hr=>first|(go_simp;done)|(go_simp;rfl));intro w110 hw;have hg : wr.grownBy w110 (some go105):=(by rw [hw];exact HP109.2);have hp_ : Kd.R (Kd.int .i64) 3 w110 w.heap.size (fun k_=>some k_ ≠ (.slice Ao23 x3_2.length co23 : Value).ownBlock∧some k_ ≠ (v143 : Value).ownBlock) (.slice (some ⟨go105,0,none⟩) x2_3.length co105) y171:=(by rw [hw,Ny171.out];exact HP109.1);clear HP109;have n0_:=zm (hp_);have n1_:=zm (Kd.R_after (v:=(.slice (some ⟨go105,0,none⟩) x2_3.length co105)) (v1:=(.slice (some ⟨go105,0,none⟩) x2_3.length co105)) (ok:=(fun k_=>some k_ ≠ (v143 : Value).ownBlock)) (by (with_reducible repeat (first|apply zP|apply zQ|apply zR));exact zS HO_3.out (fun _ hk=>⟨hk.2,hk.1⟩)) hg (.inl rfl));have n2_:=zm (Kd.R_after (v:=(.slice (some ⟨go105,0,none⟩) x2_3.length co105)) (v1:=(.slice (some ⟨go105,0,none⟩) x2_3.length co105)) (ok:=(fun k_=>some k_ ≠ (.slice Ao23 x3_2.length co23 : Value).ownBlock)) (by (with_reducible repeat (first|apply zP|apply zQ|apply zR));exact zS HO_7.out (fun _ hk=>⟨hk.2,hk.1⟩)) hg (.inl rfl));have n3_:=zm (blk_grown (g:=gb132) (o:=.cells #[.slice A0_0 l0_0.length c0_0,.slice A0_1 l0_1.length c0_1,.slice (some ad145) l0_2.length c0_2,.slice (some ad169) l0_3.length c0_3] 29 (0,0)) (by (with_reducible repeat (first|refine zH ?_ _|refine zI ?_|refine zG ?_ _));exact BK132.out) hg (Kd.R_ne HO_2.out BK132.out (by decide)));have n4_:=zm ((by rw [hw];exact zF (HB.out) GB105.out : Below w.heap.size w w110));clear HO_2;clear HO_3;clear HO_7;clear BK132;clear HB;have HO_2:=n0_;have HO_3:=n1_;have HO_7:=n2_;have BK132:=n3_;have HB:=n4_;clear n0_ n1_ n2_ n3_ n4_;clear hg hw hp_;have p107 : 0 ≤ (x36_3 : Int):=of_decide_eq_true (by first|(with_reducible assumption)|assumption);have q107 : (x36_3 : Int) < ((x7_3.length : Int) : Int):=of_decide_eq_true (by first|(with_reducible assumption)|assumption);obtain ⟨go107,co107,eo107,gb107,gl107,cl107,HG107⟩:=Kd.R_form HO_7.out (by omega);(first|cases eo107|(injection eo107 with ea_ en_ ec_;(first|subst ea_|(injection ea_ with ea_;subst ea_));subst ec_;clear en_));have GB107:=zm gb107;have GG107:=zm HG107;clear gb107 gl107 HG107;obtain ⟨hx107_0,hf107_0⟩:=Kd.R_celln 0 HO_7.out (x36_3 : Int) p107 q107;replace p107:=eq_true p107;replace q107:=eq_true q107;obtain ⟨hy111_,hz111_⟩:=Kd.R_celln 0 HO_7.out (x36_3 : Int) (of_decide_eq_true (by first|(with_reducible assumption)|assumption)) (of_decide_eq_true (by first|(with_reducible assumption)|assumption));have HP111:=Kd.R_putg HO_7.out (x36_3 : Int) t170)|((with_reducible refine gate_store (t:=3) (p:=94) rfl ?_);refine store_event (t:=3) (p:=94) (v:=?vo_w112) (w1:=(w110.setCell ⟨go107,(x36_3 : Int).toNat,none⟩ (.int .i64 t170))) ?hg ?ho ?hn ?hr ?_;(case ho=>rfl);(case hg=>rfl);(case hn=>rfl);(case hr=>first|(go_simp;done)|(go_simp;rfl));intro w112 hw;have hg : w110.grownBy w112 (some go107):=(by rw [hw];exact HP111.2);have hp_ : Kd.R (Kd.int .i64) 3 w112 w.heap.size (fun k_=>some k_ ≠ (.slice Ao23 x3_2.length co23 : Value).ownBlock∧some k_ ≠ (.slice (some ⟨go105,0,none⟩) x2_3.length co105 : Value).ownBlock) (.slice (some ⟨go107,0,none⟩) x7_3.length co107) y172:=(by rw [hw,Ny172.out];exact HP111.1);clear HP111;have n0_:=zm (Kd.R_after (v:=(.slice (some ⟨go107,0,none⟩) x7_3.length co107)) (v1:=(.slice (some ⟨go107,0,none⟩) x7_3.length co107)) (ok:=(fun k_=>some k_ ≠ (.slice Ao23 x3_2.length co23 : Value).ownBlock)) (by (with_reducible repeat (first|apply zP|apply zQ|apply zR));exact HO_2.out) hg (.inl rfl));have n1_:=zm (Kd.R_after (v:=(.slice (some ⟨go107,0,none⟩) x7_3.length co107)) (v1:=(.slice (some ⟨go107,0,none⟩) x7_3.length co107)) (ok:=(fun k_=>some k_ ≠ (.slice (some ⟨go105,0,none⟩) x2_3.length co105 : Value).ownBlock)) (by (with_reducible repeat (first|apply zP|apply zQ|apply zR));exact zS HO_3.out (fun _ hk=>⟨hk.2,hk.1⟩)) hg (.inl rfl));have n2_:=zm (hp_);have n3_:=zm (blk_grown (g:=gb132) (o:=.cells #[.slice A0_0 l0_0.length c0_0,.slice A0_1 l0_1.length c0_1,.slice (some ad145) l0_2.length c0_2,.slice (some ad169) l0_3.length c0_3] 29 (0,0)) (by (with_reducible repeat (first|refine zH ?_ _|refine zI ?_|refine zG ?_ _));exact BK132.out) hg (Kd.R_ne HO_7.out BK132.out (by decide)));have n4_:=zm ((by rw [hw];exact zF (HB.out) GB107.out : Below w.heap.size w w112));clear HO_2;clear HO_3;clear HO_7;clear BK132;clear HB;have HO_2:=n0_;have HO_3:=n1_;have HO_7:=n2_;have BK132:=n3_;have HB:=n4_;clear n0_ n1_ n2_ n3_ n4_;clear hg hw hp_))
                   go_roundg k3
                   case measure=>have:=HK1.out;have:=HK2.out;have:=HK3.out;omega
                   case rel=>exact ⟨(y171),(true),(y172),(wrap64 (x36_3 + 1)),(by first|rfl|(simp;done)|(simp [*];done)),(by first|rfl|(simp;done)|(simp [*];done)),H',⟨by have:=HK1.out;have:=HK2.out;have:=HK3.out;omega⟩,⟨by (with_reducible repeat (first|apply zP|apply zQ|apply zR));exact HO_2.out⟩,⟨by (with_reducible repeat (first|apply zP|apply zQ|apply zR));exact HO_3.out⟩,⟨by (with_reducible repeat (first|apply zP|apply zQ|apply zR));exact zS HO_7.out (fun _ hk=>⟨hk.2,hk.1⟩)⟩,⟨by (with_reducible repeat (first|refine zH ?_ _|refine zI ?_|refine zG ?_ _));exact BK132.out⟩,⟨by repeat (first|(with_reducible first|exact HB.out|apply zA|apply zB|apply zC|refine zF ?_ GE132.out)|exact HB.out)⟩⟩
                  ·rw [if_neg c106] at H
                   exact absurd H (by simp)
                 ·rw [if_neg c104] at H
                  exact absurd H (by simp)
                ·replace c103:=Bool.eq_false_iff.mpr c103
                 subst c103
                 have H1 : (if x36_3 < (x2_3.length : Int) then (if 0 = (rd x2_3 x36_3) then (if x36_3 < (x3_2.length : Int) then (if x36_3 < (x7_3.length : Int) then (impl_work.l2 k3 (x2_3.set (x36_3 : Int).toNat 0) x3_2 (l0_0.length : Int) (t170 != (rd x3_2 x36_3)) (x7_3.set (x36_3 : Int).toNat t170) (l0_0.length : Int) (wrap64 (x36_3 + 1)) l0_0 l0_1 l0_2 l0_3) else (none)) else (none)) else (if x36_3 < (x7_3.length : Int) then (impl_work.l2 k3 (x2_3.set (x36_3 : Int).toNat 0) x3_2 (l0_0.length : Int) true (x7_3.set (x36_3 : Int).toNat t170) (l0_0.length : Int) (wrap64 (x36_3 + 1)) l0_0 l0_1 l0_2 l0_3) else (none))) else (none)) = some (r1,r2):=by rw [if_neg (show ¬ (false = true) by decide)] at H;exact H
                 clear H
                 have H:=H1
                 clear H1
                 by_cases c113 : x36_3 < (x2_3.length : Int)
                 ·rw [if_pos c113] at H
                  have c113b0 : decide (x36_3 < (x2_3.length : Int)) = true:=decide_eq_true c113
                  clear c113
                  by_cases c114 : 0 = (rd x2_3 x36_3)
                  ·rw [if_pos c114] at H
                   have c114b0 : (0 == (rd x2_3 x36_3)) = true:=beq_iff_eq.mpr c114
                   have c114b1 : (0 != (rd x2_3 x36_3)) = false:=bne_eq_false_iff_eq.mpr c114
                   clear c114
                   by_cases c115 : x36_3 < (x3_2.length : Int)
                   ·rw [if_pos c115] at H
                    have c115b0 : decide (x36_3 < (x3_2.length : Int)) = true:=decide_eq_true c115
                    clear c115
                    obtain ⟨y175,hy175⟩ : ∃ y_ : List Int,y_ = (x2_3.set (x36_3 : Int).toNat 0):=⟨_,rfl⟩
                    replace H : (if x36_3 < (x7_3.length : Int) then (impl_work.l2 k3 y175 x3_2 (l0_0.length : Int) (t170 != (rd x3_2 x36_3)) (x7_3.set (x36_3 : Int).toNat t170) (l0_0.length : Int) (wrap64 (x36_3 + 1)) l0_0 l0_1 l0_2 l0_3) else (none)) = some (r1,r2):=by first|(rw [hy175];with_reducible exact H)|(have H2_:=(Option.bind_some _ _).symm.trans H;rw [hy175];with_reducible exact H2_)|(have H2_:=(Option.bind_some _ _).symm.trans H;with_reducible exact H2_)|with_reducible exact H|(rw [hy175];exact H)|exact H
                    have Ny175:=zm hy175
                    clear hy175
                    by_cases c117 : x36_3 < (x7_3.length : Int)
                    ·rw [if_pos c117] at H
                     have c117b0 : decide (x36_3 < (x7_3.length : Int)) = true:=decide_eq_true c117
                     clear c117
                     obtain ⟨y176,hy176⟩ : ∃ y_ : List Int,y_ = (x7_3.set (x36_3 : Int).toNat t170):=⟨_,rfl⟩
                     replace H : (impl_work.l2 k3 y175 x3_2 (l0_0.length : Int) (t170 != (rd x3_2 x36_3)) y176 (l0_0.length : Int) (wrap64 (x36_3 + 1)) l0_0 l0_1 l0_2 l0_3) = some (r1,r2):=by first|(rw [hy176];with_reducible exact H)|(have H2_:=(Option.bind_some _ _).symm.trans H;rw [hy176];with_reducible exact H2_)|(have H2_:=(Option.bind_some _ _).symm.trans H;with_reducible exact H2_)|with_reducible exact H|(rw [hy176];exact H)|exact H
                     have Ny176:=zm hy176
                     clear hy176
                     have H':=zm H
                     clear H
                     have hcz119_0 : wr.cell? ⟨gb132,0,none⟩ = some (.slice A0_0 l0_0.length c0_0):=(zD BK132.out 0).trans rfl
                     have hcz119_1 : wr.cell? ⟨gb132,1,none⟩ = some (.slice A0_1 l0_1.length c0_1):=(zD BK132.out 1).trans rfl
                     have hcz119_2 : wr.cell? ⟨gb132,2,none⟩ = some (.slice A0_2 l0_2.length c0_2):=(zD BK132.out 2).trans rfl
                     have hcz119_3 : wr.cell? ⟨gb132,3,none⟩ = some (.slice A0_3 l0_3.length c0_3):=(zD BK132.out 3).trans rfl
                     have hfz119_0:=zE BK132.out 0
                     have hfz119_1:=zE BK132.out 1
                     have hfz119_2:=zE BK132.out 2
                     have hfz119_3:=zE BK132.out 3
                     have p145 : 0 ≤ (x36_3 : Int):=of_decide_eq_true (by first|(with_reducible assumption)|assumption)
                     have q145 : x36_3 < (l0_2.length : Int):=of_decide_eq_true (by first|(with_reducible assumption)|assumption)
                     obtain ⟨ad145,e145,hx145_0⟩:=Kd.at_bool HR0_2.out x36_3 p145 q145
                     (try rw [← Nbq28.out] at hx145_0)
                     cases e145
                     replace hx145_0:=(HB.out.cell (World.block_lt_of_cell? w _ hx145_0)).trans hx145_0
                     replace p145:=eq_true p145
                     replace q145:=eq_true q145
                     have p169 : 0 ≤ (x36_3 : Int):=of_decide_eq_true (by first|(with_reducible assumption)|assumption)
                     have q169 : x36_3 < (l0_3.length : Int):=of_decide_eq_true (by first|(with_reducible assumption)|assumption)
                     obtain ⟨ad169,A169_0,c169_0,e169,hx169_0,hl169_0,hi169_0⟩:=at_L3 HR0_3.out x36_3 p169 q169
                     cases e169
                     replace hx169_0:=(HB.out.cell (World.block_lt_of_cell? w _ hx169_0)).trans hx169_0
                     have HR169_0:=zm hi169_0
                     have HC169_0:=zm hl169_0
                     clear hi169_0 hl169_0
                     replace p169:=eq_true p169
                     replace q169:=eq_true q169
                     go_wp2_with (first|((with_reducible refine gate_callee (f:=20) rfl ?_);refine goesL_ (some 69) rfl rfl Try.func20 (by kernel_rfl) rfl #[.slice A169_0 (rd_L3 l0_3 x36_3).length c169_0,.int .i64 0] rfl (by (try simp only [List.map_toArray,List.map_cons,List.map_nil]);first|done|rfl|(simp only [List.length_drop,List.length_take];rfl)) ?_;(with_reducible refine (impl_can.calls k3 _ _ (rd_L3 l0_3 x36_3) 0 t170 _ ?side1 ?side2 A102.out).mono ?_);(case side1=>repeat (first|exact (zY HR169_0.out HB.out)|(with_reducible refine zT ?_ _)|(with_reducible refine zU ?_ _)|(with_reducible refine zV ?_)));(case side2=>exact HC169_0.out);rintro e w' ⟨rfl,⟨nd,rfl⟩⟩;refine ⟨_,rfl,?_⟩;(try (rw [drewN_self wr];generalize hq_ : World.drewN wr _ = wr;have n0_ : Aside0 (Kd.R (Kd.int .i64) 3 wr w.heap.size (fun k_=>some k_ ≠ (.slice Ao23 x3_2.length co23 : Value).ownBlock∧some k_ ≠ (v143 : Value).ownBlock) v134 x2_3):=⟨by rw [← hq_];exact (by (with_reducible repeat (first|apply zP|apply zQ|apply zR));exact HO_2.out)⟩;have n1_ : Aside0 (Kd.R (Kd.int .i64) 3 wr w.heap.size (fun k_=>some k_ ≠ (v134 : Value).ownBlock∧some k_ ≠ (v143 : Value).ownBlock) (.slice Ao23 x3_2.length co23) x3_2):=⟨by rw [← hq_];exact (by (with_reducible repeat (first|apply zP|apply zQ|apply zR));exact HO_3.out)⟩;have n2_ : Aside0 (Kd.R (Kd.int .i64) 3 wr w.heap.size (fun k_=>some k_ ≠ (v134 : Value).ownBlock∧some k_ ≠ (.slice Ao23 x3_2.length co23 : Value).ownBlock) v143 x7_3):=⟨by rw [← hq_];exact (by (with_reducible repeat (first|apply zP|apply zQ|apply zR));exact HO_7.out)⟩;have n3_ : Aside0 (wr.heap[gb132]? = some (.cells #[.slice A0_0 l0_0.length c0_0,.slice A0_1 l0_1.length c0_1,.slice (some ad145) l0_2.length c0_2,.slice (some ad169) l0_3.length c0_3] 29 (0,0))):=⟨by rw [← hq_];exact (by (with_reducible repeat (first|refine zH ?_ _|refine zI ?_|refine zG ?_ _));exact BK132.out)⟩;have n4_ : Aside0 (Below w.heap.size w wr):=⟨by rw [← hq_];exact (by repeat (first|(with_reducible first|exact HB.out|apply zA|apply zB|apply zC|refine zF ?_ GE132.out)|exact HB.out))⟩;clear HO_2 HO_3 HO_7 BK132 HB hq_;have HO_2:=n0_;have HO_3:=n1_;have HO_7:=n2_;have BK132:=n3_;have HB:=n4_;clear n0_ n1_ n2_ n3_ n4_));obtain ⟨Ao120,co120,eo120⟩:=zAb HO_2.out;subst eo120;have p173 : 0 ≤ (x36_3 : Int):=of_decide_eq_true (by first|(with_reducible assumption)|assumption);have q173 : x36_3 < (x2_3.length : Int):=of_decide_eq_true (by first|(with_reducible assumption)|assumption);obtain ⟨ad173,e173,hx173_0⟩:=Kd.at_int (zW HO_2.out).2.2 x36_3 p173 q173;cases e173;replace p173:=eq_true p173;replace q173:=eq_true q173;have p174 : 0 ≤ (x36_3 : Int):=of_decide_eq_true (by first|(with_reducible assumption)|assumption);have q174 : x36_3 < (x3_2.length : Int):=of_decide_eq_true (by first|(with_reducible assumption)|assumption);obtain ⟨ad174,e174,hx174_0⟩:=Kd.at_int (zW HO_3.out).2.2 x36_3 p174 q174;cases e174;replace p174:=eq_true p174;replace q174:=eq_true q174;have p116 : 0 ≤ (x36_3 : Int):=of_decide_eq_true (by first|(with_reducible assumption)|assumption);have q116 : (x36_3 : Int) < ((x2_3.length : Int) : Int):=of_decide_eq_true (by first|(with_reducible assumption)|assumption);obtain ⟨go116,co116,eo116,gb116,gl116,cl116,HG116⟩:=Kd.R_form HO_2.out (by omega);(first|cases eo116|(injection eo116 with ea_ en_ ec_;(first|subst ea_|(injection ea_ with ea_;subst ea_));subst ec_;clear en_));have GB116:=zm gb116;have GG116:=zm HG116;clear gb116 gl116 HG116;(first|simp only [add_plain] at hx173_0|skip);obtain ⟨hx116_0,hf116_0⟩:=Kd.R_celln 0 HO_2.out (x36_3 : Int) p116 q116;replace p116:=eq_true p116;replace q116:=eq_true q116;obtain ⟨hy121_,hz121_⟩:=Kd.R_celln 0 HO_2.out (x36_3 : Int) (of_decide_eq_true (by first|(with_reducible assumption)|assumption)) (of_decide_eq_true (by first|(with_reducible assumption)|assumption));have HP121:=Kd.R_putg HO_2.out (x36_3 : Int) 0)|((with_reducible refine gate_store (t:=3) (p:=93) rfl ?_);refine store_event (t:=3) (p:=93) (v:=?vo_w122) (w1:=(wr.setCell ⟨go116,(x36_3 : Int).toNat,none⟩ (.int .i64 0))) ?hg ?ho ?hn ?hr ?_;(case ho=>rfl);(case hg=>rfl);(case hn=>rfl);(case hr=>first|(go_simp;done)|(go_simp;rfl));intro w122 hw;have hg : wr.grownBy w122 (some go116):=(by rw [hw];exact HP121.2);have hp_ : Kd.R (Kd.int .i64) 3 w122 w.heap.size (fun k_=>some k_ ≠ (.slice (some ad174) x3_2.length co23 : Value).ownBlock∧some k_ ≠ (v143 : Value).ownBlock) (.slice (some ⟨go116,0,none⟩) x2_3.length co120) y175:=(by rw [hw,Ny175.out];exact HP121.1);clear HP121;have n0_:=zm (hp_);have n1_:=zm (Kd.R_after (v:=(.slice (some ⟨go116,0,none⟩) x2_3.length co120)) (v1:=(.slice (some ⟨go116,0,none⟩) x2_3.length co120)) (ok:=(fun k_=>some k_ ≠ (v143 : Value).ownBlock)) (by (with_reducible repeat (first|apply zP|apply zQ|apply zR));exact zS HO_3.out (fun _ hk=>⟨hk.2,hk.1⟩)) hg (.inl rfl));have n2_:=zm (Kd.R_after (v:=(.slice (some ⟨go116,0,none⟩) x2_3.length co120)) (v1:=(.slice (some ⟨go116,0,none⟩) x2_3.length co120)) (ok:=(fun k_=>some k_ ≠ (.slice (some ad174) x3_2.length co23 : Value).ownBlock)) (by (with_reducible repeat (first|apply zP|apply zQ|apply zR));exact zS HO_7.out (fun _ hk=>⟨hk.2,hk.1⟩)) hg (.inl rfl));have n3_:=zm (blk_grown (g:=gb132) (o:=.cells #[.slice A0_0 l0_0.length c0_0,.slice A0_1 l0_1.length c0_1,.slice (some ad145) l0_2.length c0_2,.slice (some ad169) l0_3.length c0_3] 29 (0,0)) (by (with_reducible repeat (first|refine zH ?_ _|refine zI ?_|refine zG ?_ _));exact BK132.out) hg (Kd.R_ne HO_2.out BK132.out (by decide)));have n4_:=zm ((by rw [hw];exact zF (HB.out) GB116.out : Below w.heap.size w w122));clear HO_2;clear HO_3;clear HO_7;clear BK132;clear HB;have HO_2:=n0_;have HO_3:=n1_;have HO_7:=n2_;have BK132:=n3_;have HB:=n4_;clear n0_ n1_ n2_ n3_ n4_;clear hg hw hp_;have p118 : 0 ≤ (x36_3 : Int):=of_decide_eq_true (by first|(with_reducible assumption)|assumption);have q118 : (x36_3 : Int) < ((x7_3.length : Int) : Int):=of_decide_eq_true (by first|(with_reducible assumption)|assumption);obtain ⟨go118,co118,eo118,gb118,gl118,cl118,HG118⟩:=Kd.R_form HO_7.out (by omega);(first|cases eo118|(injection eo118 with ea_ en_ ec_;(first|subst ea_|(injection ea_ with ea_;subst ea_));subst ec_;clear en_));have GB118:=zm gb118;have GG118:=zm HG118;clear gb118 gl118 HG118;obtain ⟨hx118_0,hf118_0⟩:=Kd.R_celln 0 HO_7.out (x36_3 : Int) p118 q118;replace p118:=eq_true p118;replace q118:=eq_true q118;obtain ⟨hy123_,hz123_⟩:=Kd.R_celln 0 HO_7.out (x36_3 : Int) (of_decide_eq_true (by first|(with_reducible assumption)|assumption)) (of_decide_eq_true (by first|(with_reducible assumption)|assumption));have HP123:=Kd.R_putg HO_7.out (x36_3 : Int) t170)|((with_reducible refine gate_store (t:=3) (p:=94) rfl ?_);refine store_event (t:=3) (p:=94) (v:=?vo_w124) (w1:=(w122.setCell ⟨go118,(x36_3 : Int).toNat,none⟩ (.int .i64 t170))) ?hg ?ho ?hn ?hr ?_;(case ho=>rfl);(case hg=>rfl);(case hn=>rfl);(case hr=>first|(go_simp;done)|(go_simp;rfl));intro w124 hw;have hg : w122.grownBy w124 (some go118):=(by rw [hw];exact HP123.2);have hp_ : Kd.R (Kd.int .i64) 3 w124 w.heap.size (fun k_=>some k_ ≠ (.slice (some ad174) x3_2.length co23 : Value).ownBlock∧some k_ ≠ (.slice (some ⟨go116,0,none⟩) x2_3.length co120 : Value).ownBlock) (.slice (some ⟨go118,0,none⟩) x7_3.length co118) y176:=(by rw [hw,Ny176.out];exact HP123.1);clear HP123;have n0_:=zm (Kd.R_after (v:=(.slice (some ⟨go118,0,none⟩) x7_3.length co118)) (v1:=(.slice (some ⟨go118,0,none⟩) x7_3.length co118)) (ok:=(fun k_=>some k_ ≠ (.slice (some ad174) x3_2.length co23 : Value).ownBlock)) (by (with_reducible repeat (first|apply zP|apply zQ|apply zR));exact HO_2.out) hg (.inl rfl));have n1_:=zm (Kd.R_after (v:=(.slice (some ⟨go118,0,none⟩) x7_3.length co118)) (v1:=(.slice (some ⟨go118,0,none⟩) x7_3.length co118)) (ok:=(fun k_=>some k_ ≠ (.slice (some ⟨go116,0,none⟩) x2_3.length co120 : Value).ownBlock)) (by (with_reducible repeat (first|apply zP|apply zQ|apply zR));exact zS HO_3.out (fun _ hk=>⟨hk.2,hk.1⟩)) hg (.inl rfl));have n2_:=zm (hp_);have n3_:=zm (blk_grown (g:=gb132) (o:=.cells #[.slice A0_0 l0_0.length c0_0,.slice A0_1 l0_1.length c0_1,.slice (some ad145) l0_2.length c0_2,.slice (some ad169) l0_3.length c0_3] 29 (0,0)) (by (with_reducible repeat (first|refine zH ?_ _|refine zI ?_|refine zG ?_ _));exact BK132.out) hg (Kd.R_ne HO_7.out BK132.out (by decide)));have n4_:=zm ((by rw [hw];exact zF (HB.out) GB118.out : Below w.heap.size w w124));clear HO_2;clear HO_3;clear HO_7;clear BK132;clear HB;have HO_2:=n0_;have HO_3:=n1_;have HO_7:=n2_;have BK132:=n3_;have HB:=n4_;clear n0_ n1_ n2_ n3_ n4_;clear hg hw hp_))
                     go_roundg k3
                     case measure=>have:=HK1.out;have:=HK2.out;have:=HK3.out;omega
                     case rel=>exact ⟨(y175),((t170 != (rd x3_2 x36_3))),(y176),(wrap64 (x36_3 + 1)),(by first|rfl|(simp;done)|(simp [*];done)),(by first|rfl|(simp;done)|(simp [*];done)),H',⟨by have:=HK1.out;have:=HK2.out;have:=HK3.out;omega⟩,⟨by (with_reducible repeat (first|apply zP|apply zQ|apply zR));exact HO_2.out⟩,⟨by (with_reducible repeat (first|apply zP|apply zQ|apply zR));exact HO_3.out⟩,⟨by (with_reducible repeat (first|apply zP|apply zQ|apply zR));exact zS HO_7.out (fun _ hk=>⟨hk.2,hk.1⟩)⟩,⟨by (with_reducible repeat (first|refine zH ?_ _|refine zI ?_|refine zG ?_ _));exact BK132.out⟩,⟨by repeat (first|(with_reducible first|exact HB.out|apply zA|apply zB|apply zC|refine zF ?_ GE132.out)|exact HB.out)⟩⟩
                    ·rw [if_neg c117] at H
                     exact absurd H (by simp)
                   ·rw [if_neg c115] at H
                    exact absurd H (by simp)
                  ·rw [if_neg c114] at H
                   have c114b0 : (0 == (rd x2_3 x36_3)) = false:=beq_eq_false_iff_ne.mpr c114
                   have c114b1 : (0 != (rd x2_3 x36_3)) = true:=bne_iff_ne.mpr c114
                   obtain ⟨y177,hy177⟩ : ∃ y_ : List Int,y_ = (x2_3.set (x36_3 : Int).toNat 0):=⟨_,rfl⟩
                   replace H : (if x36_3 < (x7_3.length : Int) then (impl_work.l2 k3 y177 x3_2 (l0_0.length : Int) true (x7_3.set (x36_3 : Int).toNat t170) (l0_0.length : Int) (wrap64 (x36_3 + 1)) l0_0 l0_1 l0_2 l0_3) else (none)) = some (r1,r2):=by first|(rw [hy177];with_reducible exact H)|(have H2_:=(Option.bind_some _ _).symm.trans H;rw [hy177];with_reducible exact H2_)|(have H2_:=(Option.bind_some _ _).symm.trans H;with_reducible exact H2_)|with_reducible exact H|(rw [hy177];exact H)|exact H
                   have Ny177:=zm hy177
                   clear hy177
                   by_cases c126 : x36_3 < (x7_3.length : Int)
                   ·rw [if_pos c126] at H
                    have c126b0 : decide (x36_3 < (x7_3.length : Int)) = true:=decide_eq_true c126
                    clear c126
                    obtain ⟨y178,hy178⟩ : ∃ y_ : List Int,y_ = (x7_3.set (x36_3 : Int).toNat t170):=⟨_,rfl⟩
                    replace H : (impl_work.l2 k3 y177 x3_2 (l0_0.length : Int) true y178 (l0_0.length : Int) (wrap64 (x36_3 + 1)) l0_0 l0_1 l0_2 l0_3) = some (r1,r2):=by first|(rw [hy178];with_reducible exact H)|(have H2_:=(Option.bind_some _ _).symm.trans H;rw [hy178];with_reducible exact H2_)|(have H2_:=(Option.bind_some _ _).symm.trans H;with_reducible exact H2_)|with_reducible exact H|(rw [hy178];exact H)|exact H
                    have Ny178:=zm hy178
                    clear hy178
                    have H':=zm H
                    clear H
                    have hcz128_0 : wr.cell? ⟨gb132,0,none⟩ = some (.slice A0_0 l0_0.length c0_0):=(zD BK132.out 0).trans rfl
                    have hcz128_1 : wr.cell? ⟨gb132,1,none⟩ = some (.slice A0_1 l0_1.length c0_1):=(zD BK132.out 1).trans rfl
                    have hcz128_2 : wr.cell? ⟨gb132,2,none⟩ = some (.slice A0_2 l0_2.length c0_2):=(zD BK132.out 2).trans rfl
                    have hcz128_3 : wr.cell? ⟨gb132,3,none⟩ = some (.slice A0_3 l0_3.length c0_3):=(zD BK132.out 3).trans rfl
                    have hfz128_0:=zE BK132.out 0
                    have hfz128_1:=zE BK132.out 1
                    have hfz128_2:=zE BK132.out 2
                    have hfz128_3:=zE BK132.out 3
                    have p145 : 0 ≤ (x36_3 : Int):=of_decide_eq_true (by first|(with_reducible assumption)|assumption)
                    have q145 : x36_3 < (l0_2.length : Int):=of_decide_eq_true (by first|(with_reducible assumption)|assumption)
                    obtain ⟨ad145,e145,hx145_0⟩:=Kd.at_bool HR0_2.out x36_3 p145 q145
                    (try rw [← Nbq28.out] at hx145_0)
                    cases e145
                    replace hx145_0:=(HB.out.cell (World.block_lt_of_cell? w _ hx145_0)).trans hx145_0
                    replace p145:=eq_true p145
                    replace q145:=eq_true q145
                    have p169 : 0 ≤ (x36_3 : Int):=of_decide_eq_true (by first|(with_reducible assumption)|assumption)
                    have q169 : x36_3 < (l0_3.length : Int):=of_decide_eq_true (by first|(with_reducible assumption)|assumption)
                    obtain ⟨ad169,A169_0,c169_0,e169,hx169_0,hl169_0,hi169_0⟩:=at_L3 HR0_3.out x36_3 p169 q169
                    cases e169
                    replace hx169_0:=(HB.out.cell (World.block_lt_of_cell? w _ hx169_0)).trans hx169_0
                    have HR169_0:=zm hi169_0
                    have HC169_0:=zm hl169_0
                    clear hi169_0 hl169_0
                    replace p169:=eq_true p169
                    replace q169:=eq_true q169
                    go_wp2_with (first|((with_reducible refine gate_callee (f:=20) rfl ?_);refine goesL_ (some 69) rfl rfl Try.func20 (by kernel_rfl) rfl #[.slice A169_0 (rd_L3 l0_3 x36_3).length c169_0,.int .i64 0] rfl (by (try simp only [List.map_toArray,List.map_cons,List.map_nil]);first|done|rfl|(simp only [List.length_drop,List.length_take];rfl)) ?_;(with_reducible refine (impl_can.calls k3 _ _ (rd_L3 l0_3 x36_3) 0 t170 _ ?side1 ?side2 A102.out).mono ?_);(case side1=>repeat (first|exact (zY HR169_0.out HB.out)|(with_reducible refine zT ?_ _)|(with_reducible refine zU ?_ _)|(with_reducible refine zV ?_)));(case side2=>exact HC169_0.out);rintro e w' ⟨rfl,⟨nd,rfl⟩⟩;refine ⟨_,rfl,?_⟩;(try (rw [drewN_self wr];generalize hq_ : World.drewN wr _ = wr;have n0_ : Aside0 (Kd.R (Kd.int .i64) 3 wr w.heap.size (fun k_=>some k_ ≠ (.slice Ao23 x3_2.length co23 : Value).ownBlock∧some k_ ≠ (v143 : Value).ownBlock) v134 x2_3):=⟨by rw [← hq_];exact (by (with_reducible repeat (first|apply zP|apply zQ|apply zR));exact HO_2.out)⟩;have n1_ : Aside0 (Kd.R (Kd.int .i64) 3 wr w.heap.size (fun k_=>some k_ ≠ (v134 : Value).ownBlock∧some k_ ≠ (v143 : Value).ownBlock) (.slice Ao23 x3_2.length co23) x3_2):=⟨by rw [← hq_];exact (by (with_reducible repeat (first|apply zP|apply zQ|apply zR));exact HO_3.out)⟩;have n2_ : Aside0 (Kd.R (Kd.int .i64) 3 wr w.heap.size (fun k_=>some k_ ≠ (v134 : Value).ownBlock∧some k_ ≠ (.slice Ao23 x3_2.length co23 : Value).ownBlock) v143 x7_3):=⟨by rw [← hq_];exact (by (with_reducible repeat (first|apply zP|apply zQ|apply zR));exact HO_7.out)⟩;have n3_ : Aside0 (wr.heap[gb132]? = some (.cells #[.slice A0_0 l0_0.length c0_0,.slice A0_1 l0_1.length c0_1,.slice (some ad145) l0_2.length c0_2,.slice (some ad169) l0_3.length c0_3] 29 (0,0))):=⟨by rw [← hq_];exact (by (with_reducible repeat (first|refine zH ?_ _|refine zI ?_|refine zG ?_ _));exact BK132.out)⟩;have n4_ : Aside0 (Below w.heap.size w wr):=⟨by rw [← hq_];exact (by repeat (first|(with_reducible first|exact HB.out|apply zA|apply zB|apply zC|refine zF ?_ GE132.out)|exact HB.out))⟩;clear HO_2 HO_3 HO_7 BK132 HB hq_;have HO_2:=n0_;have HO_3:=n1_;have HO_7:=n2_;have BK132:=n3_;have HB:=n4_;clear n0_ n1_ n2_ n3_ n4_));obtain ⟨Ao129,co129,eo129⟩:=zAb HO_2.out;subst eo129;have p173 : 0 ≤ (x36_3 : Int):=of_decide_eq_true (by first|(with_reducible assumption)|assumption);have q173 : x36_3 < (x2_3.length : Int):=of_decide_eq_true (by first|(with_reducible assumption)|assumption);obtain ⟨ad173,e173,hx173_0⟩:=Kd.at_int (zW HO_2.out).2.2 x36_3 p173 q173;cases e173;replace p173:=eq_true p173;replace q173:=eq_true q173;have p125 : 0 ≤ (x36_3 : Int):=of_decide_eq_true (by first|(with_reducible assumption)|assumption);have q125 : (x36_3 : Int) < ((x2_3.length : Int) : Int):=of_decide_eq_true (by first|(with_reducible assumption)|assumption);obtain ⟨go125,co125,eo125,gb125,gl125,cl125,HG125⟩:=Kd.R_form HO_2.out (by omega);(first|cases eo125|(injection eo125 with ea_ en_ ec_;(first|subst ea_|(injection ea_ with ea_;subst ea_));subst ec_;clear en_));have GB125:=zm gb125;have GG125:=zm HG125;clear gb125 gl125 HG125;(first|simp only [add_plain] at hx173_0|skip);obtain ⟨hx125_0,hf125_0⟩:=Kd.R_celln 0 HO_2.out (x36_3 : Int) p125 q125;replace p125:=eq_true p125;replace q125:=eq_true q125;obtain ⟨hy130_,hz130_⟩:=Kd.R_celln 0 HO_2.out (x36_3 : Int) (of_decide_eq_true (by first|(with_reducible assumption)|assumption)) (of_decide_eq_true (by first|(with_reducible assumption)|assumption));have HP130:=Kd.R_putg HO_2.out (x36_3 : Int) 0)|((with_reducible refine gate_store (t:=3) (p:=93) rfl ?_);refine store_event (t:=3) (p:=93) (v:=?vo_w131) (w1:=(wr.setCell ⟨go125,(x36_3 : Int).toNat,none⟩ (.int .i64 0))) ?hg ?ho ?hn ?hr ?_;(case ho=>rfl);(case hg=>rfl);(case hn=>rfl);(case hr=>first|(go_simp;done)|(go_simp;rfl));intro w131 hw;have hg : wr.grownBy w131 (some go125):=(by rw [hw];exact HP130.2);have hp_ : Kd.R (Kd.int .i64) 3 w131 w.heap.size (fun k_=>some k_ ≠ (.slice Ao23 x3_2.length co23 : Value).ownBlock∧some k_ ≠ (v143 : Value).ownBlock) (.slice (some ⟨go125,0,none⟩) x2_3.length co129) y177:=(by rw [hw,Ny177.out];exact HP130.1);clear HP130;have n0_:=zm (hp_);have n1_:=zm (Kd.R_after (v:=(.slice (some ⟨go125,0,none⟩) x2_3.length co129)) (v1:=(.slice (some ⟨go125,0,none⟩) x2_3.length co129)) (ok:=(fun k_=>some k_ ≠ (v143 : Value).ownBlock)) (by (with_reducible repeat (first|apply zP|apply zQ|apply zR));exact zS HO_3.out (fun _ hk=>⟨hk.2,hk.1⟩)) hg (.inl rfl));have n2_:=zm (Kd.R_after (v:=(.slice (some ⟨go125,0,none⟩) x2_3.length co129)) (v1:=(.slice (some ⟨go125,0,none⟩) x2_3.length co129)) (ok:=(fun k_=>some k_ ≠ (.slice Ao23 x3_2.length co23 : Value).ownBlock)) (by (with_reducible repeat (first|apply zP|apply zQ|apply zR));exact zS HO_7.out (fun _ hk=>⟨hk.2,hk.1⟩)) hg (.inl rfl));have n3_:=zm (blk_grown (g:=gb132) (o:=.cells #[.slice A0_0 l0_0.length c0_0,.slice A0_1 l0_1.length c0_1,.slice (some ad145) l0_2.length c0_2,.slice (some ad169) l0_3.length c0_3] 29 (0,0)) (by (with_reducible repeat (first|refine zH ?_ _|refine zI ?_|refine zG ?_ _));exact BK132.out) hg (Kd.R_ne HO_2.out BK132.out (by decide)));have n4_:=zm ((by rw [hw];exact zF (HB.out) GB125.out : Below w.heap.size w w131));clear HO_2;clear HO_3;clear HO_7;clear BK132;clear HB;have HO_2:=n0_;have HO_3:=n1_;have HO_7:=n2_;have BK132:=n3_;have HB:=n4_;clear n0_ n1_ n2_ n3_ n4_;clear hg hw hp_;have p127 : 0 ≤ (x36_3 : Int):=of_decide_eq_true (by first|(with_reducible assumption)|assumption);have q127 : (x36_3 : Int) < ((x7_3.length : Int) : Int):=of_decide_eq_true (by first|(with_reducible assumption)|assumption);obtain ⟨go127,co127,eo127,gb127,gl127,cl127,HG127⟩:=Kd.R_form HO_7.out (by omega);(first|cases eo127|(injection eo127 with ea_ en_ ec_;(first|subst ea_|(injection ea_ with ea_;subst ea_));subst ec_;clear en_));have GB127:=zm gb127;have GG127:=zm HG127;clear gb127 gl127 HG127;obtain ⟨hx127_0,hf127_0⟩:=Kd.R_celln 0 HO_7.out (x36_3 : Int) p127 q127;replace p127:=eq_true p127;replace q127:=eq_true q127;obtain ⟨hy132_,hz132_⟩:=Kd.R_celln 0 HO_7.out (x36_3 : Int) (of_decide_eq_true (by first|(with_reducible assumption)|assumption)) (of_decide_eq_true (by first|(with_reducible assumption)|assumption));have HP132:=Kd.R_putg HO_7.out (x36_3 : Int) t170)|((with_reducible refine gate_store (t:=3) (p:=94) rfl ?_);refine store_event (t:=3) (p:=94) (v:=?vo_w133) (w1:=(w131.setCell ⟨go127,(x36_3 : Int).toNat,none⟩ (.int .i64 t170))) ?hg ?ho ?hn ?hr ?_;(case ho=>rfl);(case hg=>rfl);(case hn=>rfl);(case hr=>first|(go_simp;done)|(go_simp;rfl));intro w133 hw;have hg : w131.grownBy w133 (some go127):=(by rw [hw];exact HP132.2);have hp_ : Kd.R (Kd.int .i64) 3 w133 w.heap.size (fun k_=>some k_ ≠ (.slice Ao23 x3_2.length co23 : Value).ownBlock∧some k_ ≠ (.slice (some ⟨go125,0,none⟩) x2_3.length co129 : Value).ownBlock) (.slice (some ⟨go127,0,none⟩) x7_3.length co127) y178:=(by rw [hw,Ny178.out];exact HP132.1);clear HP132;have n0_:=zm (Kd.R_after (v:=(.slice (some ⟨go127,0,none⟩) x7_3.length co127)) (v1:=(.slice (some ⟨go127,0,none⟩) x7_3.length co127)) (ok:=(fun k_=>some k_ ≠ (.slice Ao23 x3_2.length co23 : Value).ownBlock)) (by (with_reducible repeat (first|apply zP|apply zQ|apply zR));exact HO_2.out) hg (.inl rfl));have n1_:=zm (Kd.R_after (v:=(.slice (some ⟨go127,0,none⟩) x7_3.length co127)) (v1:=(.slice (some ⟨go127,0,none⟩) x7_3.length co127)) (ok:=(fun k_=>some k_ ≠ (.slice (some ⟨go125,0,none⟩) x2_3.length co129 : Value).ownBlock)) (by (with_reducible repeat (first|apply zP|apply zQ|apply zR));exact zS HO_3.out (fun _ hk=>⟨hk.2,hk.1⟩)) hg (.inl rfl));have n2_:=zm (hp_);have n3_:=zm (blk_grown (g:=gb132) (o:=.cells #[.slice A0_0 l0_0.length c0_0,.slice A0_1 l0_1.length c0_1,.slice (some ad145) l0_2.length c0_2,.slice (some ad169) l0_3.length c0_3] 29 (0,0)) (by (with_reducible repeat (first|refine zH ?_ _|refine zI ?_|refine zG ?_ _));exact BK132.out) hg (Kd.R_ne HO_7.out BK132.out (by decide)));have n4_:=zm ((by rw [hw];exact zF (HB.out) GB127.out : Below w.heap.size w w133));clear HO_2;clear HO_3;clear HO_7;clear BK132;clear HB;have HO_2:=n0_;have HO_3:=n1_;have HO_7:=n2_;have BK132:=n3_;have HB:=n4_;clear n0_ n1_ n2_ n3_ n4_;clear hg hw hp_))
                    go_roundg k3
                    case measure=>have:=HK1.out;have:=HK2.out;have:=HK3.out;omega
                    case rel=>exact ⟨(y177),(true),(y178),(wrap64 (x36_3 + 1)),(by first|rfl|(simp;done)|(simp [*];done)),(by first|rfl|(simp;done)|(simp [*];done)),H',⟨by have:=HK1.out;have:=HK2.out;have:=HK3.out;omega⟩,⟨by (with_reducible repeat (first|apply zP|apply zQ|apply zR));exact HO_2.out⟩,⟨by (with_reducible repeat (first|apply zP|apply zQ|apply zR));exact HO_3.out⟩,⟨by (with_reducible repeat (first|apply zP|apply zQ|apply zR));exact zS HO_7.out (fun _ hk=>⟨hk.2,hk.1⟩)⟩,⟨by (with_reducible repeat (first|refine zH ?_ _|refine zI ?_|refine zG ?_ _));exact BK132.out⟩,⟨by repeat (first|(with_reducible first|exact HB.out|apply zA|apply zB|apply zC|refine zF ?_ GE132.out)|exact HB.out)⟩⟩
                   ·rw [if_neg c126] at H
                    exact absurd H (by simp)
                 ·rw [if_neg c113] at H
                  exact absurd H (by simp)
               ·rw [if_neg c101] at H
                exact absurd H (by simp)
             ·rw [if_neg c27] at H
              exact absurd H (by simp)
            ·rw [if_neg c26] at H
             exact absurd H (by simp)
           ·rw [if_neg c25] at H
            have c25b0 : decide (x36_3 < (l0_0.length : Int)) = false:=decide_eq_false c25
            clear c25
            have H':=zm H
            clear H
            go_wp2
            go_roundg k3
            case measure=>have:=HK1.out;have:=HK2.out;have:=HK3.out;omega
            case rel=>exact ⟨(x2_3),(x7_3),(x6_3),(by first|rfl|(simp;done)|(simp [*];done)),H',⟨by have:=HK1.out;have:=HK2.out;have:=HK3.out;omega⟩,⟨by (with_reducible repeat (first|apply zP|apply zQ|apply zR));exact zS HO_2.out (fun _ hk=>hk.2)⟩,⟨by (with_reducible repeat (first|apply zP|apply zQ|apply zR));exact zS HO_7.out (fun _ hk=>hk.1)⟩,⟨by (with_reducible repeat (first|refine zH ?_ _|refine zI ?_|refine zG ?_ _));exact BK132.out⟩,⟨by repeat (first|(with_reducible first|exact HB.out|apply zA|apply zB|apply zC|refine zF ?_ GE132.out)|exact HB.out)⟩⟩
        ·replace c21:=Bool.eq_false_iff.mpr c21
         subst c21
         have H1 : (some (x2_2,x3_2)) = some (r1,r2):=by rw [if_neg (show ¬ (false = true) by decide)] at H;exact H
         clear H
         have H:=H1
         clear H1
         simp only [Option.some.injEq,Prod.mk.injEq] at H
         obtain ⟨rfl,rfl⟩:=H
         go_wp2
         go_ret2
         exact ⟨_,_,by first|rfl|(simp [errW_none,errW_some] <;> rfl)|(simp [*,errW_none,errW_some] <;> rfl),by (with_reducible repeat (first|apply zP|apply zQ|apply zR));exact HO_2.out,by (with_reducible repeat (first|apply zP|apply zQ|apply zR));exact HO_3.out,by repeat (first|(with_reducible first|exact HB.out|apply zA|apply zB|apply zC|refine zF ?_ GE132.out)|exact HB.out)⟩
  ·rw [if_neg c3] at H
   exact absurd H (by simp)
 ·rw [if_neg c2] at H
  exact absurd H (by simp)

end Go.Proofs.Ytlojolldbbooeaa.P
