-- written by a program of this session (after the kit's print), not trusted: Lean checks it
import Derived.Test.YtlojolldbbooeaaPx0
import Derived.Test.YtlojolldbbooeaaPx1
import Derived.Test.YtlojolldbbooeaaPx2
import Derived.Test.YtlojolldbbooeaaPx6
namespace Go.Proofs.Ytlojolldbbooeaa.P
open Go.RowKit Go.Proofs.YtlojolldbbooeaaW.PrintWords Go.Proofs.YtlojolldbbooeaaW.PrintLast Go.Proofs.YtlojolldbbooeaaW.PrintMore
open Go.Proofs.YtlojolldbbooeaaW.PrintWords renaming below_alloc → zA, below_drew1 → zC, below_set → zF, below_size → zJ, below_step → zK, blk_alloc → zG, blk_below → zL, blk_cell → zD, blk_drew → zI, blk_drewN → zH, blk_frozen → zE, box_event → zN, gate_dst → zM, pw_below_drewN → zB
open Go.Proofs.YtlojolldbbooeaaW.PrintWords.Kd renaming C_alloc → zT, C_drew → zV, C_drewN → zU, R_alloc → zP, R_base → zCb, R_below → zHb, R_drew → zR, R_drewN → zQ, R_elder' → zGb, R_far → zX, R_lower → zZ, R_mono → zS, R_reads' → zW, R_slice → zAb, R_types → zBb, S_alloc → zDb, S_drew → zFb, S_drewN → zEb
open Go.Proofs.YtlojolldbbooeaaW.PrintWords.Aside0 renaming mk → zm
attribute [local go_sem] max2_int min2_int max_two min_two max_three min_three max_four min_four   -- for this text's walks alone
set_option linter.unusedVariables false
set_option linter.unusedSimpArgs false

/-! ### laws_FnLine: function 4 -/
mutual
def laws_FnLine.j0 : Nat→Int→Int→List Int→List Int→Bool→Option (Bool)
 | 0,_,_,_,_,_=>none
 | k + 1,x3,x4,x6,x7,x41=>if x41 = true then (some false) else (laws_FnLine.l0 k x3 x4 x6 x7 0)
def laws_FnLine.l0 : Nat→Int→Int→List Int→List Int→Int→Option (Bool)
 | 0,_,_,_,_,_=>none
 | k + 1,x3,x4,x6,x7,x8=>if x8 < x3 then (if (wrap64 (x8 + 1)) > 3 then (laws_FnLine.j2 k x3 x4 x6 x7 x8 3) else (laws_FnLine.j2 k x3 x4 x6 x7 x8 (wrap64 (x8 + 1)))) else (some true)
def laws_FnLine.j2 : Nat→Int→Int→List Int→List Int→Int→Int→Option (Bool)
 | 0,_,_,_,_,_,_=>none
 | k + 1,x3,x4,x6,x7,x8,x9=>if x8 ≥ x4 then (if (wrap64 (x8 - x4)) > 3 then (if 0 ≤ x8 then (if x8 < (x6.length : Int) then (if (rd x6 x8) = x9 then (if x8 < (x7.length : Int) then (if (rd x7 x8) = 3 then (laws_FnLine.l0 k x3 x4 x6 x7 (wrap64 (x8 + 1))) else (some false)) else (none)) else (some false)) else (none)) else (none)) else (if 0 ≤ x8 then (if x8 < (x6.length : Int) then (if (rd x6 x8) = x9 then (if x8 < (x7.length : Int) then (if (rd x7 x8) = (wrap64 (x8 - x4)) then (laws_FnLine.l0 k x3 x4 x6 x7 (wrap64 (x8 + 1))) else (some false)) else (none)) else (some false)) else (none)) else (none))) else (if 0 ≤ x8 then (if x8 < (x6.length : Int) then (if (rd x6 x8) = x9 then (if x8 < (x7.length : Int) then (if (rd x7 x8) = x9 then (laws_FnLine.l0 k x3 x4 x6 x7 (wrap64 (x8 + 1))) else (some false)) else (none)) else (some false)) else (none)) else (none))
end
def laws_FnLine.f (k : Nat) (l0 : List Int) : Option (Bool):=if (l0.length : Int) > 1048576 then (some true) else ((laws_wByte.f l0 0).bind fun t187=>((laws_wByte.f l0 1).bind fun t188=>(if (wrap64 (1 + (Int.tmod t187 20))) = 0 then (none) else ((spec_MadeLine.f k (wrap64 (1 + (Int.tmod t187 20))) 100).bind fun bt189=>((impl_Shows.f k bt189.1 bt189.2.1 bt189.2.2.1 bt189.2.2.2).bind fun t202=>(if 0 ≤ (Int.tmod t188 (wrap64 (1 + (Int.tmod t187 20)))) then (if (Int.tmod t188 (wrap64 (1 + (Int.tmod t187 20)))) < (bt189.2.2.1.length : Int) then ((impl_Shows.f k bt189.1 bt189.2.1 (bt189.2.2.1.set ((Int.tmod t188 (wrap64 (1 + (Int.tmod t187 20)))) : Int).toNat false) bt189.2.2.2).bind fun t206=>(if (t202.length : Int) = (wrap64 (1 + (Int.tmod t187 20))) then (laws_FnLine.j0 k (wrap64 (1 + (Int.tmod t187 20))) (Int.tmod t188 (wrap64 (1 + (Int.tmod t187 20)))) t202 t206 ((t206.length : Int) != (wrap64 (1 + (Int.tmod t187 20))))) else (laws_FnLine.j0 k (wrap64 (1 + (Int.tmod t187 20))) (Int.tmod t188 (wrap64 (1 + (Int.tmod t187 20)))) t202 t206 true))) else (none)) else (none)))))))
theorem laws_FnLine.mono_l : ∀ k,(∀ y0 y1 y2 y3 y4,LeO (laws_FnLine.j0 k y0 y1 y2 y3 y4) (laws_FnLine.j0 (k + 1) y0 y1 y2 y3 y4))∧(∀ y0 y1 y2 y3 y4,LeO (laws_FnLine.l0 k y0 y1 y2 y3 y4) (laws_FnLine.l0 (k + 1) y0 y1 y2 y3 y4))∧(∀ y0 y1 y2 y3 y4 y5,LeO (laws_FnLine.j2 k y0 y1 y2 y3 y4 y5) (laws_FnLine.j2 (k + 1) y0 y1 y2 y3 y4 y5))
 | 0=>⟨fun _ _ _ _ _ r h=>by simp [laws_FnLine.j0] at h,fun _ _ _ _ _ r h=>by simp [laws_FnLine.l0] at h,fun _ _ _ _ _ _ r h=>by simp [laws_FnLine.j2] at h⟩
 | k + 1=>by
  obtain ⟨ih0,ih1,ih2⟩:=laws_FnLine.mono_l k
  refine ⟨?_,?_,?_⟩
  ·intro y0 y1 y2 y3 y4
   unfold laws_FnLine.j0
   repeat' first
   | (with_reducible exact ih0 _ _ _ _ _)
   | (with_reducible exact ih1 _ _ _ _ _)
   | (with_reducible exact ih2 _ _ _ _ _ _)
   | (with_reducible exact impl_Shows.mono _ _ _ _ _)
   | (with_reducible exact spec_MadeLine.mono _ _ _)
   | (with_reducible exact LeO.refl _)
   | (with_reducible exact LeO.none _)
   | (with_reducible refine LeO.ite ?_ ?_)
   | (with_reducible refine LeO.bind ?_ (fun _=>?_))
   | exact ih0 _ _ _ _ _
   | exact ih1 _ _ _ _ _
   | exact ih2 _ _ _ _ _ _
   | exact impl_Shows.mono _ _ _ _ _
   | exact spec_MadeLine.mono _ _ _
   | exact LeO.none _
   | refine LeO.ite ?_ ?_
   | refine LeO.bind ?_ (fun _=>?_)
  ·intro y0 y1 y2 y3 y4
   unfold laws_FnLine.l0
   repeat' first
   | (with_reducible exact ih0 _ _ _ _ _)
   | (with_reducible exact ih1 _ _ _ _ _)
   | (with_reducible exact ih2 _ _ _ _ _ _)
   | (with_reducible exact impl_Shows.mono _ _ _ _ _)
   | (with_reducible exact spec_MadeLine.mono _ _ _)
   | (with_reducible exact LeO.refl _)
   | (with_reducible exact LeO.none _)
   | (with_reducible refine LeO.ite ?_ ?_)
   | (with_reducible refine LeO.bind ?_ (fun _=>?_))
   | exact ih0 _ _ _ _ _
   | exact ih1 _ _ _ _ _
   | exact ih2 _ _ _ _ _ _
   | exact impl_Shows.mono _ _ _ _ _
   | exact spec_MadeLine.mono _ _ _
   | exact LeO.none _
   | refine LeO.ite ?_ ?_
   | refine LeO.bind ?_ (fun _=>?_)
  ·intro y0 y1 y2 y3 y4 y5
   unfold laws_FnLine.j2
   repeat' first
   | (with_reducible exact ih0 _ _ _ _ _)
   | (with_reducible exact ih1 _ _ _ _ _)
   | (with_reducible exact ih2 _ _ _ _ _ _)
   | (with_reducible exact impl_Shows.mono _ _ _ _ _)
   | (with_reducible exact spec_MadeLine.mono _ _ _)
   | (with_reducible exact LeO.refl _)
   | (with_reducible exact LeO.none _)
   | (with_reducible refine LeO.ite ?_ ?_)
   | (with_reducible refine LeO.bind ?_ (fun _=>?_))
   | exact ih0 _ _ _ _ _
   | exact ih1 _ _ _ _ _
   | exact ih2 _ _ _ _ _ _
   | exact impl_Shows.mono _ _ _ _ _
   | exact spec_MadeLine.mono _ _ _
   | exact LeO.none _
   | refine LeO.ite ?_ ?_
   | refine LeO.bind ?_ (fun _=>?_)
theorem laws_FnLine.mono : ∀ a0 k,LeO (laws_FnLine.f k a0) (laws_FnLine.f (k + 1) a0):=by
 intro a0 k
 obtain ⟨ih0,ih1,ih2⟩:=laws_FnLine.mono_l k
 unfold laws_FnLine.f
 repeat' first
   | (with_reducible exact ih0 _ _ _ _ _)
   | (with_reducible exact ih1 _ _ _ _ _)
   | (with_reducible exact ih2 _ _ _ _ _ _)
   | (with_reducible exact impl_Shows.mono _ _ _ _ _)
   | (with_reducible exact spec_MadeLine.mono _ _ _)
   | (with_reducible exact LeO.refl _)
   | (with_reducible exact LeO.none _)
   | (with_reducible refine LeO.ite ?_ ?_)
   | (with_reducible refine LeO.bind ?_ (fun _=>?_))
   | exact ih0 _ _ _ _ _
   | exact ih1 _ _ _ _ _
   | exact ih2 _ _ _ _ _ _
   | exact impl_Shows.mono _ _ _ _ _
   | exact spec_MadeLine.mono _ _ _
   | exact LeO.none _
   | refine LeO.ite ?_ ?_
   | refine LeO.bind ?_ (fun _=>?_)
set_option maxHeartbeats 8000000 in
set_option maxRecDepth 100000 in
theorem laws_FnLine.calls (k : Nat) (A0 : Option Addr) (c0 : Nat) (l0 : List Int) (r : Bool) (w : World) (hr0 : Kd.C (Kd.int .u8) w A0 l0.length l0) (hc0 : l0.length ≤ c0) (h : laws_FnLine.f k l0 = some r) :
  Calls Try.prog 4 #[.slice A0 l0.length c0] w fun e w'=>e = .returned (.bool r)∧Below w.heap.size w w':=by
 have hu29:=Try.underlying29
 have HR0:=zm hr0
 have HC0:=zm hc0
 clear hr0 hc0
 have HB:=zm (Below.refl w.heap.size w)
 have H : (if (l0.length : Int) > 1048576 then (some true) else ((laws_wByte.f l0 0).bind fun t187=>((laws_wByte.f l0 1).bind fun t188=>(if (wrap64 (1 + (Int.tmod t187 20))) = 0 then (none) else ((spec_MadeLine.f k (wrap64 (1 + (Int.tmod t187 20))) 100).bind fun bt189=>((impl_Shows.f k bt189.1 bt189.2.1 bt189.2.2.1 bt189.2.2.2).bind fun t202=>(if 0 ≤ (Int.tmod t188 (wrap64 (1 + (Int.tmod t187 20)))) then (if (Int.tmod t188 (wrap64 (1 + (Int.tmod t187 20)))) < (bt189.2.2.1.length : Int) then ((impl_Shows.f k bt189.1 bt189.2.1 (bt189.2.2.1.set ((Int.tmod t188 (wrap64 (1 + (Int.tmod t187 20)))) : Int).toNat false) bt189.2.2.2).bind fun t206=>(if (t202.length : Int) = (wrap64 (1 + (Int.tmod t187 20))) then (laws_FnLine.j0 k (wrap64 (1 + (Int.tmod t187 20))) (Int.tmod t188 (wrap64 (1 + (Int.tmod t187 20)))) t202 t206 ((t206.length : Int) != (wrap64 (1 + (Int.tmod t187 20))))) else (laws_FnLine.j0 k (wrap64 (1 + (Int.tmod t187 20))) (Int.tmod t188 (wrap64 (1 + (Int.tmod t187 20)))) t202 t206 true))) else (none)) else (none)))))))) = some r:=h
 clear h
 by_cases c2 : (l0.length : Int) > 1048576
 ·rw [if_pos c2] at H
  have c2b0 : decide (1048576 < (l0.length : Int)) = true:=decide_eq_true c2
  have c2b1 : decide (1048576 < l0.length) = true:=decide_eq_true (by omega)
  clear c2
  obtain rfl:=Option.some.inj H
  go_enter Try.func4,Try.ntmps4
  go_wp2
  go_ret
  exact ⟨by first|rfl|(simp [errW_none,errW_some] <;> rfl)|(simp [*,errW_none,errW_some] <;> rfl),by repeat (first|(with_reducible first|exact HB.out|apply zA|apply zB|apply zC)|exact HB.out)⟩
 ·rw [if_neg c2] at H
  have c2b0 : decide (1048576 < (l0.length : Int)) = false:=decide_eq_false c2
  have c2b1 : decide (1048576 < l0.length) = false:=decide_eq_false (by omega)
  clear c2
  replace H:=Option.bind_eq_some_iff.mp H
  obtain ⟨t187,A30,H⟩:=H
  replace H : ((laws_wByte.f l0 1).bind fun t188=>(if (wrap64 (1 + (Int.tmod t187 20))) = 0 then (none) else ((spec_MadeLine.f k (wrap64 (1 + (Int.tmod t187 20))) 100).bind fun bt189=>((impl_Shows.f k bt189.1 bt189.2.1 bt189.2.2.1 bt189.2.2.2).bind fun t202=>(if 0 ≤ (Int.tmod t188 (wrap64 (1 + (Int.tmod t187 20)))) then (if (Int.tmod t188 (wrap64 (1 + (Int.tmod t187 20)))) < (bt189.2.2.1.length : Int) then ((impl_Shows.f k bt189.1 bt189.2.1 (bt189.2.2.1.set ((Int.tmod t188 (wrap64 (1 + (Int.tmod t187 20)))) : Int).toNat false) bt189.2.2.2).bind fun t206=>(if (t202.length : Int) = (wrap64 (1 + (Int.tmod t187 20))) then (laws_FnLine.j0 k (wrap64 (1 + (Int.tmod t187 20))) (Int.tmod t188 (wrap64 (1 + (Int.tmod t187 20)))) t202 t206 ((t206.length : Int) != (wrap64 (1 + (Int.tmod t187 20))))) else (laws_FnLine.j0 k (wrap64 (1 + (Int.tmod t187 20))) (Int.tmod t188 (wrap64 (1 + (Int.tmod t187 20)))) t202 t206 true))) else (none)) else (none)))))) = some r:=H
  have A3:=zm A30
  clear A30
  replace H:=Option.bind_eq_some_iff.mp H
  obtain ⟨t188,A40,H⟩:=H
  replace H : (if (wrap64 (1 + (Int.tmod t187 20))) = 0 then (none) else ((spec_MadeLine.f k (wrap64 (1 + (Int.tmod t187 20))) 100).bind fun bt189=>((impl_Shows.f k bt189.1 bt189.2.1 bt189.2.2.1 bt189.2.2.2).bind fun t202=>(if 0 ≤ (Int.tmod t188 (wrap64 (1 + (Int.tmod t187 20)))) then (if (Int.tmod t188 (wrap64 (1 + (Int.tmod t187 20)))) < (bt189.2.2.1.length : Int) then ((impl_Shows.f k bt189.1 bt189.2.1 (bt189.2.2.1.set ((Int.tmod t188 (wrap64 (1 + (Int.tmod t187 20)))) : Int).toNat false) bt189.2.2.2).bind fun t206=>(if (t202.length : Int) = (wrap64 (1 + (Int.tmod t187 20))) then (laws_FnLine.j0 k (wrap64 (1 + (Int.tmod t187 20))) (Int.tmod t188 (wrap64 (1 + (Int.tmod t187 20)))) t202 t206 ((t206.length : Int) != (wrap64 (1 + (Int.tmod t187 20))))) else (laws_FnLine.j0 k (wrap64 (1 + (Int.tmod t187 20))) (Int.tmod t188 (wrap64 (1 + (Int.tmod t187 20)))) t202 t206 true))) else (none)) else (none))))) = some r:=H
  have A4:=zm A40
  clear A40
  by_cases c5 : (wrap64 (1 + (Int.tmod t187 20))) = 0
  ·rw [if_pos c5] at H
   exact absurd H (by simp)
  ·rw [if_neg c5] at H
   have c5b0 : ((wrap64 (1 + (Int.tmod t187 20))) == 0) = false:=beq_eq_false_iff_ne.mpr c5
   have c5b1 : ((wrap64 (1 + (Int.tmod t187 20))) != 0) = true:=bne_iff_ne.mpr c5
   replace H:=Option.bind_eq_some_iff.mp H
   obtain ⟨⟨t189,t192,t195,t198⟩,A60,H⟩:=H
   replace H : ((impl_Shows.f k t189 t192 t195 t198).bind fun t202=>(if 0 ≤ (Int.tmod t188 (wrap64 (1 + (Int.tmod t187 20)))) then (if (Int.tmod t188 (wrap64 (1 + (Int.tmod t187 20)))) < (t195.length : Int) then ((impl_Shows.f k t189 t192 (t195.set ((Int.tmod t188 (wrap64 (1 + (Int.tmod t187 20)))) : Int).toNat false) t198).bind fun t206=>(if (t202.length : Int) = (wrap64 (1 + (Int.tmod t187 20))) then (laws_FnLine.j0 k (wrap64 (1 + (Int.tmod t187 20))) (Int.tmod t188 (wrap64 (1 + (Int.tmod t187 20)))) t202 t206 ((t206.length : Int) != (wrap64 (1 + (Int.tmod t187 20))))) else (laws_FnLine.j0 k (wrap64 (1 + (Int.tmod t187 20))) (Int.tmod t188 (wrap64 (1 + (Int.tmod t187 20)))) t202 t206 true))) else (none)) else (none))) = some r:=H
   have A6:=zm A60
   clear A60
   replace H:=Option.bind_eq_some_iff.mp H
   obtain ⟨t202,A70,H⟩:=H
   replace H : (if 0 ≤ (Int.tmod t188 (wrap64 (1 + (Int.tmod t187 20)))) then (if (Int.tmod t188 (wrap64 (1 + (Int.tmod t187 20)))) < (t195.length : Int) then ((impl_Shows.f k t189 t192 (t195.set ((Int.tmod t188 (wrap64 (1 + (Int.tmod t187 20)))) : Int).toNat false) t198).bind fun t206=>(if (t202.length : Int) = (wrap64 (1 + (Int.tmod t187 20))) then (laws_FnLine.j0 k (wrap64 (1 + (Int.tmod t187 20))) (Int.tmod t188 (wrap64 (1 + (Int.tmod t187 20)))) t202 t206 ((t206.length : Int) != (wrap64 (1 + (Int.tmod t187 20))))) else (laws_FnLine.j0 k (wrap64 (1 + (Int.tmod t187 20))) (Int.tmod t188 (wrap64 (1 + (Int.tmod t187 20)))) t202 t206 true))) else (none)) else (none)) = some r:=H
   have A7:=zm A70
   clear A70
   obtain ⟨ji8,hji8⟩ : ∃ j_ : Int,(Int.tmod t188 (wrap64 (1 + (Int.tmod t187 20)))) = j_:=⟨_,rfl⟩
   replace H : (if 0 ≤ (ji8) then (if (ji8) < (t195.length : Int) then ((impl_Shows.f k t189 t192 (t195.set ((ji8) : Int).toNat false) t198).bind fun t206=>(if (t202.length : Int) = (wrap64 (1 + (Int.tmod t187 20))) then (laws_FnLine.j0 k (wrap64 (1 + (Int.tmod t187 20))) ji8 t202 t206 ((t206.length : Int) != (wrap64 (1 + (Int.tmod t187 20))))) else (laws_FnLine.j0 k (wrap64 (1 + (Int.tmod t187 20))) ji8 t202 t206 true))) else (none)) else (none)) = some r:=by first|(rw [hji8] at H;exact H)|(simp only [hji8] at H ⊢;exact H)
   (try rw [hji8] at A3)
   (try rw [hji8] at A4)
   (try rw [hji8] at A6)
   (try rw [hji8] at A7)
   by_cases c9 : 0 ≤ (ji8)
   ·rw [if_pos c9] at H
    have c9b0 : decide (0 ≤ (ji8)) = true:=decide_eq_true c9
    clear c9
    by_cases c10 : (ji8) < (t195.length : Int)
    ·rw [if_pos c10] at H
     have c10b0 : decide ((ji8) < (t195.length : Int)) = true:=decide_eq_true c10
     clear c10
     obtain ⟨y205,hy205⟩ : ∃ y_ : List Bool,y_ = (t195.set ((ji8) : Int).toNat false):=⟨_,rfl⟩
     replace H : ((impl_Shows.f k t189 t192 y205 t198).bind fun t206=>(if (t202.length : Int) = (wrap64 (1 + (Int.tmod t187 20))) then (laws_FnLine.j0 k (wrap64 (1 + (Int.tmod t187 20))) ji8 t202 t206 ((t206.length : Int) != (wrap64 (1 + (Int.tmod t187 20))))) else (laws_FnLine.j0 k (wrap64 (1 + (Int.tmod t187 20))) ji8 t202 t206 true))) = some r:=by first|(rw [hy205];with_reducible exact H)|(have H2_:=(Option.bind_some _ _).symm.trans H;rw [hy205];with_reducible exact H2_)|(have H2_:=(Option.bind_some _ _).symm.trans H;with_reducible exact H2_)|with_reducible exact H|(rw [hy205];exact H)|exact H
     have Ny205:=zm hy205
     clear hy205
     replace H:=Option.bind_eq_some_iff.mp H
     obtain ⟨t206,A120,H⟩:=H
     replace H : (if (t202.length : Int) = (wrap64 (1 + (Int.tmod t187 20))) then (laws_FnLine.j0 k (wrap64 (1 + (Int.tmod t187 20))) ji8 t202 t206 ((t206.length : Int) != (wrap64 (1 + (Int.tmod t187 20))))) else (laws_FnLine.j0 k (wrap64 (1 + (Int.tmod t187 20))) ji8 t202 t206 true)) = some r:=H
     have A12:=zm A120
     clear A120
     have HC13:=zm H
     clear H
     go_enter Try.func4,Try.ntmps4
     go_upto_region 9 with (first|((with_reducible refine gate_callee (f:=6) rfl ?_);refine goesL_ (some 15) rfl rfl Try.func6 (by kernel_rfl) rfl #[.slice A0 l0.length c0,.int .i64 0] rfl (by (try simp only [List.map_toArray,List.map_cons,List.map_nil]);first|done|rfl|(simp only [List.length_drop,List.length_take];rfl)) ?_;(with_reducible refine (laws_wByte.calls _ _ l0 0 t187 _ ?side1 ?side2 A3.out).mono ?_);(case side1=>repeat (first|exact HR0.out|(with_reducible refine zT ?_ _)|(with_reducible refine zU ?_ _)|(with_reducible refine zV ?_)));(case side2=>exact HC0.out);rintro e w' ⟨rfl,⟨nd,rfl⟩⟩;refine ⟨_,rfl,?_⟩)|((with_reducible refine gate_callee (f:=6) rfl ?_);refine goesL_ (some 19) rfl rfl Try.func6 (by kernel_rfl) rfl #[.slice A0 l0.length c0,.int .i64 1] rfl (by (try simp only [List.map_toArray,List.map_cons,List.map_nil]);first|done|rfl|(simp only [List.length_drop,List.length_take];rfl)) ?_;(with_reducible refine (laws_wByte.calls _ _ l0 1 t188 _ ?side1 ?side2 A4.out).mono ?_);(case side1=>repeat (first|exact HR0.out|(with_reducible refine zT ?_ _)|(with_reducible refine zU ?_ _)|(with_reducible refine zV ?_)));(case side2=>exact HC0.out);rintro e w' ⟨rfl,⟨nd,rfl⟩⟩;refine ⟨_,rfl,?_⟩)|((with_reducible refine gate_callee (f:=7) rfl ?_);refine goesL_ (some 23) rfl rfl Try.func7 (by kernel_rfl) rfl #[.int .i64 (wrap64 (1 + (Int.tmod t187 20))),.int .i64 100] rfl (by (try simp only [List.map_toArray,List.map_cons,List.map_nil]);first|done|rfl|(simp only [List.length_drop,List.length_take];rfl)) ?_;(with_reducible refine (spec_MadeLine.calls k (wrap64 (1 + (Int.tmod t187 20))) 100 t189 t192 t195 t198 _ A6.out).mono ?_);rintro e w14 ⟨v190,v193,v196,v199,rfl,ho0,ho1,ho2,ho3,hb⟩;refine ⟨_,rfl,?_⟩;have n0_:=zm (zZ ho0 (zJ (by repeat (first|(with_reducible first|exact HB.out|apply zA|apply zB|apply zC)|exact HB.out))));have n1_:=zm (zZ ho1 (zJ (by repeat (first|(with_reducible first|exact HB.out|apply zA|apply zB|apply zC)|exact HB.out))));have n2_:=zm (zZ ho2 (zJ (by repeat (first|(with_reducible first|exact HB.out|apply zA|apply zB|apply zC)|exact HB.out))));have n3_:=zm (Kd.S_lower ho3 (zJ (by repeat (first|(with_reducible first|exact HB.out|apply zA|apply zB|apply zC)|exact HB.out))));have n4_:=zm (zK (by repeat (first|(with_reducible first|exact HB.out|apply zA|apply zB|apply zC)|exact HB.out)) hb);clear HB;have HO191:=n0_;have HO194:=n1_;have HO197:=n2_;have HO200:=n3_;have HB:=n4_;clear n0_ n1_ n2_ n3_ n4_;(try clear hb);(try clear hb2);(try clear hk);(try clear hi);(try clear ho0);(try clear ho1);(try clear ho2);(try clear ho3))|((with_reducible refine zM (N:=5) rfl ?_);(try (refine gate_guard (by rfl) ?_;dsimp only));refine zN ?hg (N:=5) ?hd (cs:=#[.slice none 0 0,.slice none 0 0,.slice none 0 0,.slice none 0 0]) (t:=29) ?hr ?_;(case hd=>rfl);(case hg=>rfl);(case hr=>first|(go_simp;done)|(go_simp;rfl));intro gb201 hg w15 hbox hb;have n0_:=zm (zHb (by (with_reducible repeat (first|apply zP|apply zQ|apply zR));exact HO191.out) hb);have n1_:=zm (zHb (by (with_reducible repeat (first|apply zP|apply zQ|apply zR));exact HO194.out) hb);have n2_:=zm (zHb (by (with_reducible repeat (first|apply zP|apply zQ|apply zR));exact HO197.out) hb);have n3_:=zm (Kd.S_below (by (with_reducible repeat (first|apply zDb|apply zEb|apply zFb));exact HO200.out) hb);have n4_:=zm (zK (by repeat (first|(with_reducible first|exact HB.out|apply zA|apply zB|apply zC)|exact HB.out)) hb);have n5_:=zm (hbox);have n6_:=zm ((by rw [hg];exact (zJ (by repeat (first|(with_reducible first|exact HB.out|apply zA|apply zB|apply zC)|exact HB.out))) : w.heap.size ≤ gb201));have n7_:=zm ((by rw [hg];exact (zJ (by repeat (first|(with_reducible first|exact HB.out|apply zA|apply zB|apply zC)|exact HB.out))) : w.heap.size ≤ gb201));clear HO191;clear HO194;clear HO197;clear HO200;clear HB;have HO191:=n0_;have HO194:=n1_;have HO197:=n2_;have HO200:=n3_;have HB:=n4_;have BK201:=n5_;have GW201:=n6_;have GE201:=n7_;clear n0_ n1_ n2_ n3_ n4_ n5_ n6_ n7_;clear hb hbox hg;obtain ⟨Ao16,co16,eo16⟩:=zAb HO191.out;subst eo16;have hcz17_0 : w15.cell? ⟨gb201,0,none⟩ = some (.slice none 0 0):=(zD BK201.out 0).trans rfl;have hcz17_1 : w15.cell? ⟨gb201,1,none⟩ = some (.slice none 0 0):=(zD BK201.out 1).trans rfl;have hcz17_2 : w15.cell? ⟨gb201,2,none⟩ = some (.slice none 0 0):=(zD BK201.out 2).trans rfl;have hcz17_3 : w15.cell? ⟨gb201,3,none⟩ = some (.slice none 0 0):=(zD BK201.out 3).trans rfl;have hfz17_0:=zE BK201.out 0;have hfz17_1:=zE BK201.out 1;have hfz17_2:=zE BK201.out 2;have hfz17_3:=zE BK201.out 3;obtain ⟨Ao18,co18,eo18⟩:=zAb HO194.out;subst eo18;obtain ⟨Ao19,co19,eo19⟩:=zAb HO197.out;subst eo19;obtain ⟨Ao20,co20,eo20⟩:=Kd.S_slice HO200.out;subst eo20)|((with_reducible refine gate_callee (f:=8) rfl ?_);refine goesL_ (some 25) rfl rfl Try.func8 (by kernel_rfl) rfl #[.agg #[.slice Ao16 t189.length co16,.slice Ao18 t192.length co18,.slice Ao19 t195.length co19,.slice Ao20 t198.length co20]] rfl (by (try simp only [List.map_toArray,List.map_cons,List.map_nil]);first|done|rfl|(simp only [List.length_drop,List.length_take];rfl)) ?_;(with_reducible refine (impl_Shows.calls k _ _ t189 _ _ t192 _ _ t195 _ _ t198 t202 _ ?side1 ?side2 ?side3 ?side4 ?side5 ?side6 ?side7 ?side8 A7.out).mono ?_);(case side1=>refine (zW (e:=3) (base:=w.heap.size) (ok:=fun k_=>some k_ ≠ (.slice Ao18 t192.length co18 : Value).ownBlock) (n:=t189.length) (c:=co16) ?_).2.2;exact (by (with_reducible repeat (first|apply zP|apply zQ|apply zR));exact (zS (zX (p:=⟨gb201,3,none⟩) (zX (p:=⟨gb201,2,none⟩) (zX (p:=⟨gb201,1,none⟩) (zX (p:=⟨gb201,0,none⟩) (zBb HO191.out BK201.out (by decide)) (fun _ hk=>hk.2) (.slice Ao16 t189.length co16)) (fun _ hk=>hk.2) (.slice Ao18 t192.length co18)) (fun _ hk=>hk.2) (.slice Ao19 t195.length co19)) (fun _ hk=>hk.2) (.slice Ao20 t198.length co20)) (fun _ h_=>h_.1))));(case side2=>exact (zW HO191.out).2.1);(case side3=>refine (zW (e:=3) (base:=w.heap.size) (ok:=fun k_=>some k_ ≠ (.slice Ao16 t189.length co16 : Value).ownBlock) (n:=t192.length) (c:=co18) ?_).2.2;exact (by (with_reducible repeat (first|apply zP|apply zQ|apply zR));exact (zS (zX (p:=⟨gb201,3,none⟩) (zX (p:=⟨gb201,2,none⟩) (zX (p:=⟨gb201,1,none⟩) (zX (p:=⟨gb201,0,none⟩) (zBb HO194.out BK201.out (by decide)) (fun _ hk=>hk.2) (.slice Ao16 t189.length co16)) (fun _ hk=>hk.2) (.slice Ao18 t192.length co18)) (fun _ hk=>hk.2) (.slice Ao19 t195.length co19)) (fun _ hk=>hk.2) (.slice Ao20 t198.length co20)) (fun _ h_=>h_.1))));(case side4=>exact (zW HO194.out).2.1);(case side5=>refine (zW (e:=4) (base:=w.heap.size) (ok:=fun k_=>True) (n:=t195.length) (c:=co19) ?_).2.2;exact (by (with_reducible repeat (first|apply zP|apply zQ|apply zR));exact (zS (zX (p:=⟨gb201,3,none⟩) (zX (p:=⟨gb201,2,none⟩) (zX (p:=⟨gb201,1,none⟩) (zX (p:=⟨gb201,0,none⟩) (zBb HO197.out BK201.out (by decide)) (fun _ hk=>hk.2) (.slice Ao16 t189.length co16)) (fun _ hk=>hk.2) (.slice Ao18 t192.length co18)) (fun _ hk=>hk.2) (.slice Ao19 t195.length co19)) (fun _ hk=>hk.2) (.slice Ao20 t198.length co20)) (fun _ h_=>h_.1))));(case side6=>exact (zW HO197.out).2.1);(case side7=>refine (Kd.S_reads' (e:=26) (base:=w.heap.size) (ok:=fun k_=>some k_ ≠ (.slice Ao19 t195.length co19 : Value).ownBlock) (n:=t198.length) (c:=co20) ?_).2.2;exact (by (with_reducible repeat (first|apply zDb|apply zEb|apply zFb));exact (Kd.S_mono (Kd.S_far (p:=⟨gb201,3,none⟩) (Kd.S_far (p:=⟨gb201,2,none⟩) (Kd.S_far (p:=⟨gb201,1,none⟩) (Kd.S_far (p:=⟨gb201,0,none⟩) (Kd.S_types HO200.out BK201.out (by decide)) (fun _ hk=>hk.2) (.slice Ao16 t189.length co16)) (fun _ hk=>hk.2) (.slice Ao18 t192.length co18)) (fun _ hk=>hk.2) (.slice Ao19 t195.length co19)) (fun _ hk=>hk.2) (.slice Ao20 t198.length co20)) (fun _ h_=>h_.1))));(case side8=>exact (Kd.S_reads' HO200.out).2.1);rintro e w21 ⟨v203,rfl,ho0,hb⟩;refine ⟨_,rfl,?_⟩;have n0_:=zm (zGb (by (with_reducible repeat (first|apply zP|apply zQ|apply zR));exact (zS (zX (p:=⟨gb201,3,none⟩) (zX (p:=⟨gb201,2,none⟩) (zX (p:=⟨gb201,1,none⟩) (zX (p:=⟨gb201,0,none⟩) (zBb HO191.out BK201.out (by decide)) (fun _ hk=>hk.2) (.slice Ao16 t189.length co16)) (fun _ hk=>hk.2) (.slice Ao18 t192.length co18)) (fun _ hk=>hk.2) (.slice Ao19 t195.length co19)) (fun _ hk=>hk.2) (.slice Ao20 t198.length co20)) (fun _ h_=>h_.1))) (zCb ho0) hb);have n1_:=zm (zGb (by (with_reducible repeat (first|apply zP|apply zQ|apply zR));exact (zS (zX (p:=⟨gb201,3,none⟩) (zX (p:=⟨gb201,2,none⟩) (zX (p:=⟨gb201,1,none⟩) (zX (p:=⟨gb201,0,none⟩) (zBb HO194.out BK201.out (by decide)) (fun _ hk=>hk.2) (.slice Ao16 t189.length co16)) (fun _ hk=>hk.2) (.slice Ao18 t192.length co18)) (fun _ hk=>hk.2) (.slice Ao19 t195.length co19)) (fun _ hk=>hk.2) (.slice Ao20 t198.length co20)) (fun _ h_=>h_.1))) (zCb ho0) hb);have n2_:=zm (zHb (by (with_reducible repeat (first|apply zP|apply zQ|apply zR));exact (zS (zX (p:=⟨gb201,3,none⟩) (zX (p:=⟨gb201,2,none⟩) (zX (p:=⟨gb201,1,none⟩) (zX (p:=⟨gb201,0,none⟩) (zBb HO197.out BK201.out (by decide)) (fun _ hk=>hk.2) (.slice Ao16 t189.length co16)) (fun _ hk=>hk.2) (.slice Ao18 t192.length co18)) (fun _ hk=>hk.2) (.slice Ao19 t195.length co19)) (fun _ hk=>hk.2) (.slice Ao20 t198.length co20)) (fun _ h_=>h_.1))) hb);have n3_:=zm (Kd.S_below (by (with_reducible repeat (first|apply zDb|apply zEb|apply zFb));exact (Kd.S_mono (Kd.S_far (p:=⟨gb201,3,none⟩) (Kd.S_far (p:=⟨gb201,2,none⟩) (Kd.S_far (p:=⟨gb201,1,none⟩) (Kd.S_far (p:=⟨gb201,0,none⟩) (Kd.S_types HO200.out BK201.out (by decide)) (fun _ hk=>hk.2) (.slice Ao16 t189.length co16)) (fun _ hk=>hk.2) (.slice Ao18 t192.length co18)) (fun _ hk=>hk.2) (.slice Ao19 t195.length co19)) (fun _ hk=>hk.2) (.slice Ao20 t198.length co20)) (fun _ h_=>h_.1))) hb);have n4_:=zm (zZ (Kd.R_new' (Kd.R_new' ho0 (Kd.R_lt (by (with_reducible repeat (first|apply zP|apply zQ|apply zR));exact (zS (zX (p:=⟨gb201,3,none⟩) (zX (p:=⟨gb201,2,none⟩) (zX (p:=⟨gb201,1,none⟩) (zX (p:=⟨gb201,0,none⟩) (zBb HO191.out BK201.out (by decide)) (fun _ hk=>hk.2) (.slice Ao16 t189.length co16)) (fun _ hk=>hk.2) (.slice Ao18 t192.length co18)) (fun _ hk=>hk.2) (.slice Ao19 t195.length co19)) (fun _ hk=>hk.2) (.slice Ao20 t198.length co20)) (fun _ h_=>h_.1))))) (Kd.R_lt (by (with_reducible repeat (first|apply zP|apply zQ|apply zR));exact (zS (zX (p:=⟨gb201,3,none⟩) (zX (p:=⟨gb201,2,none⟩) (zX (p:=⟨gb201,1,none⟩) (zX (p:=⟨gb201,0,none⟩) (zBb HO194.out BK201.out (by decide)) (fun _ hk=>hk.2) (.slice Ao16 t189.length co16)) (fun _ hk=>hk.2) (.slice Ao18 t192.length co18)) (fun _ hk=>hk.2) (.slice Ao19 t195.length co19)) (fun _ hk=>hk.2) (.slice Ao20 t198.length co20)) (fun _ h_=>h_.1))))) (zJ (by repeat (first|(with_reducible first|exact HB.out|apply zA|apply zB|apply zC|refine zF ?_ GE201.out)|exact HB.out))));have n5_:=zm (zL (g:=gb201) (o:=.cells #[.slice Ao16 t189.length co16,.slice Ao18 t192.length co18,.slice Ao19 t195.length co19,.slice Ao20 t198.length co20] 29 (0,0)) (by (with_reducible repeat (first|refine zH ?_ _|refine zI ?_|refine zG ?_ _));refine blk_put (cs:=#[.slice Ao16 t189.length co16,.slice Ao18 t192.length co18,.slice Ao19 t195.length co19,.slice none 0 0]) ?_ 3 _ rfl;(with_reducible repeat (first|refine zH ?_ _|refine zI ?_|refine zG ?_ _));refine blk_put (cs:=#[.slice Ao16 t189.length co16,.slice Ao18 t192.length co18,.slice none 0 0,.slice none 0 0]) ?_ 2 _ rfl;(with_reducible repeat (first|refine zH ?_ _|refine zI ?_|refine zG ?_ _));refine blk_put (cs:=#[.slice Ao16 t189.length co16,.slice none 0 0,.slice none 0 0,.slice none 0 0]) ?_ 1 _ rfl;(with_reducible repeat (first|refine zH ?_ _|refine zI ?_|refine zG ?_ _));refine blk_put (cs:=#[.slice none 0 0,.slice none 0 0,.slice none 0 0,.slice none 0 0]) ?_ 0 _ rfl;(with_reducible repeat (first|refine zH ?_ _|refine zI ?_|refine zG ?_ _));exact BK201.out) hb);have n6_:=zm (zK (by repeat (first|(with_reducible first|exact HB.out|apply zA|apply zB|apply zC|refine zF ?_ GE201.out)|exact HB.out)) hb);clear HO191;clear HO194;clear HO197;clear HO200;clear BK201;clear HB;have HO191:=n0_;have HO194:=n1_;have HO197:=n2_;have HO200:=n3_;have HO204:=n4_;have BK201:=n5_;have HB:=n6_;clear n0_ n1_ n2_ n3_ n4_ n5_ n6_;(try clear hb);(try clear hb2);(try clear hk);(try clear hi);(try clear ho0);have hcz22_0 : w21.cell? ⟨gb201,0,none⟩ = some (.slice Ao16 t189.length co16):=(zD BK201.out 0).trans rfl;have hcz22_1 : w21.cell? ⟨gb201,1,none⟩ = some (.slice Ao18 t192.length co18):=(zD BK201.out 1).trans rfl;have hcz22_2 : w21.cell? ⟨gb201,2,none⟩ = some (.slice Ao19 t195.length co19):=(zD BK201.out 2).trans rfl;have hcz22_3 : w21.cell? ⟨gb201,3,none⟩ = some (.slice Ao20 t198.length co20):=(zD BK201.out 3).trans rfl;have hfz22_0:=zE BK201.out 0;have hfz22_1:=zE BK201.out 1;have hfz22_2:=zE BK201.out 2;have hfz22_3:=zE BK201.out 3;have p11 : 0 ≤ ((ji8) : Int):=of_decide_eq_true (by first|(with_reducible assumption)|assumption);have q11 : ((ji8) : Int) < ((t195.length : Int) : Int):=of_decide_eq_true (by first|(with_reducible assumption)|assumption);obtain ⟨go11,co11,eo11,gb11,gl11,cl11,HG11⟩:=Kd.R_form HO197.out (by omega);(first|cases eo11|(injection eo11 with ea_ en_ ec_;(first|subst ea_|(injection ea_ with ea_;subst ea_));subst ec_;clear en_));have GB11:=zm gb11;have GG11:=zm HG11;clear gb11 gl11 HG11;obtain ⟨hx11_0,hf11_0⟩:=Kd.R_celln false HO197.out ((ji8) : Int) p11 q11;replace p11:=eq_true p11;replace q11:=eq_true q11;obtain ⟨hy23_,hz23_⟩:=Kd.R_celln false HO197.out ((ji8) : Int) (of_decide_eq_true (by first|(with_reducible assumption)|assumption)) (of_decide_eq_true (by first|(with_reducible assumption)|assumption));have HP23:=Kd.R_putg HO197.out ((ji8) : Int) false)|((with_reducible refine gate_store (t:=4) (p:=29) rfl ?_);refine store_event (t:=4) (p:=29) (v:=?vo_w24) (w1:=(w21.setCell ⟨go11,((ji8) : Int).toNat,none⟩ (.bool false))) ?hg ?ho ?hn ?hr ?_;(case ho=>rfl);(case hg=>rfl);(case hn=>rfl);(case hr=>first|(go_simp;done)|(go_simp;rfl));intro w24 hw;have hg : w21.grownBy w24 (some go11):=(by rw [hw];exact HP23.2);have hp_ : Kd.R Kd.bool 4 w24 w.heap.size (fun _=>True) (.slice (some ⟨go11,0,none⟩) t195.length co19) y205:=(by rw [hw,Ny205.out];exact HP23.1);clear HP23;have n0_:=zm (Kd.R_over' (v:=(.slice (some ⟨go11,0,none⟩) t195.length co19)) (by (with_reducible repeat (first|apply zP|apply zQ|apply zR));exact HO191.out) (Kd.R_typed HO197.out) (by decide) hg);have n1_:=zm (Kd.R_over' (v:=(.slice (some ⟨go11,0,none⟩) t195.length co19)) (by (with_reducible repeat (first|apply zP|apply zQ|apply zR));exact HO194.out) (Kd.R_typed HO197.out) (by decide) hg);have n2_:=zm (hp_);have n3_:=zm (Kd.S_after (v:=(.slice (some ⟨go11,0,none⟩) t195.length co19)) (v1:=(.slice (some ⟨go11,0,none⟩) t195.length co19)) (ok:=(fun _=>True)) (by (with_reducible repeat (first|apply zDb|apply zEb|apply zFb));exact Kd.S_mono HO200.out (fun _ hk=>⟨trivial,hk⟩)) hg (.inl rfl));have n4_:=zm (blk_grown (g:=gb201) (o:=.cells #[.slice Ao16 t189.length co16,.slice Ao18 t192.length co18,.slice (some ⟨go11,0,none⟩) t195.length co19,.slice Ao20 t198.length co20] 29 (0,0)) (by (with_reducible repeat (first|refine zH ?_ _|refine zI ?_|refine zG ?_ _));exact BK201.out) hg (Kd.R_ne HO197.out BK201.out (by decide)));have n5_:=zm (Kd.R_over' (v:=(.slice (some ⟨go11,0,none⟩) t195.length co19)) (by (with_reducible repeat (first|apply zP|apply zQ|apply zR));exact HO204.out) (Kd.R_typed HO197.out) (by decide) hg);have n6_:=zm ((by rw [hw];exact zF (HB.out) GB11.out : Below w.heap.size w w24));clear HO191;clear HO194;clear HO197;clear HO200;clear BK201;clear HO204;clear HB;have HO191:=n0_;have HO194:=n1_;have HO197:=n2_;have HO200:=n3_;have BK201:=n4_;have HO204:=n5_;have HB:=n6_;clear n0_ n1_ n2_ n3_ n4_ n5_ n6_;clear hg hw hp_;have hcz25_0 : w24.cell? ⟨gb201,0,none⟩ = some (.slice Ao16 t189.length co16):=(zD BK201.out 0).trans rfl;have hcz25_1 : w24.cell? ⟨gb201,1,none⟩ = some (.slice Ao18 t192.length co18):=(zD BK201.out 1).trans rfl;have hcz25_2 : w24.cell? ⟨gb201,2,none⟩ = some (.slice (some ⟨go11,0,none⟩) t195.length co19):=(zD BK201.out 2).trans rfl;have hcz25_3 : w24.cell? ⟨gb201,3,none⟩ = some (.slice Ao20 t198.length co20):=(zD BK201.out 3).trans rfl;have hfz25_0:=zE BK201.out 0;have hfz25_1:=zE BK201.out 1;have hfz25_2:=zE BK201.out 2;have hfz25_3:=zE BK201.out 3)|((with_reducible refine gate_callee (f:=8) rfl ?_);refine goesL_ (some 31) rfl rfl Try.func8 (by kernel_rfl) rfl #[.agg #[.slice Ao16 t189.length co16,.slice Ao18 t192.length co18,.slice (some ⟨go11,0,none⟩) y205.length co19,.slice Ao20 t198.length co20]] rfl (by (try simp only [List.map_toArray,List.map_cons,List.map_nil]);first|done|(rw [show y205.length = t195.length from (zW HO197.out).1.symm] <;> rfl)|rfl|(simp only [List.length_drop,List.length_take];rfl)) ?_;(with_reducible refine (impl_Shows.calls k _ _ t189 _ _ t192 _ _ y205 _ _ t198 t206 _ ?side1 ?side2 ?side3 ?side4 ?side5 ?side6 ?side7 ?side8 A12.out).mono ?_);(case side1=>repeat (first|exact (zW HO191.out).2.2|(with_reducible refine zT ?_ _)|(with_reducible refine zU ?_ _)|(with_reducible refine zV ?_)));(case side2=>exact (zW HO191.out).2.1);(case side3=>repeat (first|exact (zW HO194.out).2.2|(with_reducible refine zT ?_ _)|(with_reducible refine zU ?_ _)|(with_reducible refine zV ?_)));(case side4=>exact (zW HO194.out).2.1);(case side5=>repeat (first|exact (zW HO197.out).2.2|(with_reducible refine zT ?_ _)|(with_reducible refine zU ?_ _)|(with_reducible refine zV ?_)));(case side6=>rw [show y205.length = t195.length from (zW HO197.out).1.symm];exact (zW HO197.out).2.1);(case side7=>repeat (first|exact (Kd.S_reads' HO200.out).2.2|(with_reducible refine zT ?_ _)|(with_reducible refine zU ?_ _)|(with_reducible refine zV ?_)));(case side8=>exact (Kd.S_reads' HO200.out).2.1);rintro e w26 ⟨v207,rfl,ho0,hb⟩;refine ⟨_,rfl,?_⟩;have n0_:=zm (zGb (by (with_reducible repeat (first|apply zP|apply zQ|apply zR));exact HO191.out) (zCb ho0) hb);have n1_:=zm (zGb (by (with_reducible repeat (first|apply zP|apply zQ|apply zR));exact HO194.out) (zCb ho0) hb);have n2_:=zm (zHb (by (with_reducible repeat (first|apply zP|apply zQ|apply zR));exact HO197.out) hb);have n3_:=zm (Kd.S_below (by (with_reducible repeat (first|apply zDb|apply zEb|apply zFb));exact HO200.out) hb);have n4_:=zm (zGb (by (with_reducible repeat (first|apply zP|apply zQ|apply zR));exact HO204.out) (zCb ho0) hb);have n5_:=zm (zZ (Kd.R_new' (Kd.R_new' (Kd.R_new' ho0 (Kd.R_lt (by (with_reducible repeat (first|apply zP|apply zQ|apply zR));exact HO191.out))) (Kd.R_lt (by (with_reducible repeat (first|apply zP|apply zQ|apply zR));exact HO194.out))) (Kd.R_lt (by (with_reducible repeat (first|apply zP|apply zQ|apply zR));exact HO204.out))) (zJ (by repeat (first|(with_reducible first|exact HB.out|apply zA|apply zB|apply zC|refine zF ?_ GE201.out)|exact HB.out))));have n6_:=zm (zL (g:=gb201) (o:=.cells #[.slice Ao16 t189.length co16,.slice Ao18 t192.length co18,.slice (some ⟨go11,0,none⟩) t195.length co19,.slice Ao20 t198.length co20] 29 (0,0)) (by (with_reducible repeat (first|refine zH ?_ _|refine zI ?_|refine zG ?_ _));exact BK201.out) hb);have n7_:=zm (zK (by repeat (first|(with_reducible first|exact HB.out|apply zA|apply zB|apply zC|refine zF ?_ GE201.out)|exact HB.out)) hb);clear HO191;clear HO194;clear HO197;clear HO200;clear HO204;clear BK201;clear HB;have HO191:=n0_;have HO194:=n1_;have HO197:=n2_;have HO200:=n3_;have HO204:=n4_;have HO208:=n5_;have BK201:=n6_;have HB:=n7_;clear n0_ n1_ n2_ n3_ n4_ n5_ n6_ n7_;(try clear hb);(try clear hb2);(try clear hk);(try clear hi);(try clear ho0)))
     (try simp only [Act.put,List.setIfInBounds_toArray,List.set_cons_zero,List.set_cons_succ])
     go_cut [41] (fun v41 wc=>∃ (kq : Nat) (x41_12 : Bool),v41 = .bool x41_12∧Aside0 (laws_FnLine.j0 kq (wrap64 (1 + (Int.tmod t187 20))) ji8 t202 t206 x41_12 = some r)∧Aside0 (kq ≤ k)∧Aside0 (Kd.R (Kd.int .i64) 3 wc w.heap.size (fun k_=>some k_ ≠ (v207 : Value).ownBlock∧some k_ ≠ ((.slice Ao16 t189.length co16) : Value).ownBlock∧some k_ ≠ ((.slice Ao18 t192.length co18) : Value).ownBlock) v203 t202)∧Aside0 (Kd.R (Kd.int .i64) 3 wc w.heap.size (fun k_=>some k_ ≠ (v203 : Value).ownBlock∧some k_ ≠ ((.slice Ao16 t189.length co16) : Value).ownBlock∧some k_ ≠ ((.slice Ao18 t192.length co18) : Value).ownBlock) v207 t206)∧Aside0 (Kd.R (Kd.int .i64) 3 wc w.heap.size (fun k_=>some k_ ≠ (v203 : Value).ownBlock∧some k_ ≠ (v207 : Value).ownBlock∧some k_ ≠ ((.slice Ao18 t192.length co18) : Value).ownBlock) (.slice Ao16 t189.length co16) t189)∧Aside0 (Kd.R (Kd.int .i64) 3 wc w.heap.size (fun k_=>some k_ ≠ (v203 : Value).ownBlock∧some k_ ≠ (v207 : Value).ownBlock∧some k_ ≠ ((.slice Ao16 t189.length co16) : Value).ownBlock) (.slice Ao18 t192.length co18) t192)∧Aside0 (Kd.R Kd.bool 4 wc w.heap.size (fun _=>True) (.slice (some ⟨go11,0,none⟩) t195.length co19) y205)∧Aside0 (Kd.S (Kd.slice 4 Kd.bool) 26 wc w.heap.size (fun k_=>some k_ ≠ ((.slice (some ⟨go11,0,none⟩) t195.length co19) : Value).ownBlock) (.slice Ao20 t198.length co20) t198)∧Aside0 (wc.heap[gb201]? = some (.cells #[(.slice Ao16 t189.length co16),(.slice Ao18 t192.length co18),(.slice (some ⟨go11,0,none⟩) t195.length co19),(.slice Ao20 t198.length co20)] 29 (0,0)))∧Aside0 (Below w.heap.size w wc))
     case first =>
      have H:=HC13.out
      clear HC13
      by_cases c27 : (t202.length : Int) = (wrap64 (1 + (Int.tmod t187 20)))
      ·rw [if_pos c27] at H
       have c27b0 : ((t202.length : Int) == (wrap64 (1 + (Int.tmod t187 20)))) = true:=beq_iff_eq.mpr c27
       have c27b1 : ((t202.length : Int) != (wrap64 (1 + (Int.tmod t187 20)))) = false:=bne_eq_false_iff_eq.mpr c27
       clear c27
       (first|rw [c27b0]|(simp only [i64_w,i32_w];rw [c27b0])|skip)
       have H':=zm H
       clear H
       obtain ⟨Ao28,co28,eo28⟩:=zAb HO204.out
       subst eo28
       obtain ⟨Ao29,co29,eo29⟩:=zAb HO208.out
       subst eo29
       go_wp2
       go_meet
       case rel=>exact ⟨_,(((t206.length : Int) != (wrap64 (1 + (Int.tmod t187 20))))),(by first|rfl|(simp;done)|(simp [*];done)),H',⟨by first|omega|exact Nat.le_refl _⟩,⟨by (with_reducible repeat (first|apply zP|apply zQ|apply zR));exact zS HO204.out (fun _ hk=>⟨hk.2,⟨hk.1.1.2,hk.1.2⟩⟩)⟩,⟨by (with_reducible repeat (first|apply zP|apply zQ|apply zR));exact zS HO208.out (fun _ hk=>⟨hk.2,⟨hk.1.1.2,hk.1.2⟩⟩)⟩,⟨by (with_reducible repeat (first|apply zP|apply zQ|apply zR));exact zS HO191.out (fun _ hk=>⟨hk.1.2,⟨hk.2,hk.1.1⟩⟩)⟩,⟨by (with_reducible repeat (first|apply zP|apply zQ|apply zR));exact zS HO194.out (fun _ hk=>⟨hk.1.2,⟨hk.2,hk.1.1⟩⟩)⟩,⟨by (with_reducible repeat (first|apply zP|apply zQ|apply zR));exact HO197.out⟩,⟨by (with_reducible repeat (first|apply zDb|apply zEb|apply zFb));exact Kd.S_mono HO200.out (fun _ hk=>hk.2)⟩,⟨by (with_reducible repeat (first|refine zH ?_ _|refine zI ?_|refine zG ?_ _));exact BK201.out⟩,⟨by repeat (first|(with_reducible first|exact HB.out|apply zA|apply zB|apply zC|refine zF ?_ GE201.out)|exact HB.out)⟩⟩
      ·rw [if_neg c27] at H
       have c27b0 : ((t202.length : Int) == (wrap64 (1 + (Int.tmod t187 20)))) = false:=beq_eq_false_iff_ne.mpr c27
       have c27b1 : ((t202.length : Int) != (wrap64 (1 + (Int.tmod t187 20)))) = true:=bne_iff_ne.mpr c27
       (first|rw [c27b0]|(simp only [i64_w,i32_w];rw [c27b0])|skip)
       have H':=zm H
       clear H
       obtain ⟨Ao30,co30,eo30⟩:=zAb HO204.out
       subst eo30
       go_wp2
       go_meet
       case rel=>exact ⟨_,(true),(by first|rfl|(simp;done)|(simp [*];done)),H',⟨by first|omega|exact Nat.le_refl _⟩,⟨by (with_reducible repeat (first|apply zP|apply zQ|apply zR));exact zS HO204.out (fun _ hk=>⟨hk.2,⟨hk.1.1.2,hk.1.2⟩⟩)⟩,⟨by (with_reducible repeat (first|apply zP|apply zQ|apply zR));exact zS HO208.out (fun _ hk=>⟨hk.2,⟨hk.1.1.2,hk.1.2⟩⟩)⟩,⟨by (with_reducible repeat (first|apply zP|apply zQ|apply zR));exact zS HO191.out (fun _ hk=>⟨hk.1.2,⟨hk.2,hk.1.1⟩⟩)⟩,⟨by (with_reducible repeat (first|apply zP|apply zQ|apply zR));exact zS HO194.out (fun _ hk=>⟨hk.1.2,⟨hk.2,hk.1.1⟩⟩)⟩,⟨by (with_reducible repeat (first|apply zP|apply zQ|apply zR));exact HO197.out⟩,⟨by (with_reducible repeat (first|apply zDb|apply zEb|apply zFb));exact Kd.S_mono HO200.out (fun _ hk=>hk.2)⟩,⟨by (with_reducible repeat (first|refine zH ?_ _|refine zI ?_|refine zG ?_ _));exact BK201.out⟩,⟨by repeat (first|(with_reducible first|exact HB.out|apply zA|apply zB|apply zC|refine zF ?_ GE201.out)|exact HB.out)⟩⟩
     case rest =>
      clear HC13
      try clear c1
      try clear p1
      try clear q1
      try clear hx1
      try clear hf1
      try clear c2
      try clear c2b0
      try clear c2b1
      try clear p2
      try clear c4
      try clear c5
      try clear c5b0
      try clear c5b1
      try clear c6
      try clear p6
      try clear c7
      try clear c8
      try clear c9
      try clear c9b0
      try clear c10
      try clear c10b0
      try clear p11
      try clear q11
      try clear hx11
      try clear hf11
      try clear c27
      try clear c27b0
      try clear c27b1
      try clear hcz17_0
      try clear hcz17_1
      try clear hcz17_2
      try clear hcz17_3
      try clear hcz22_0
      try clear hcz22_1
      try clear hcz22_2
      try clear hcz22_3
      try clear hcz25_0
      try clear hcz25_1
      try clear hcz25_2
      try clear hcz25_3
      try clear hfz17_0
      try clear hfz17_1
      try clear hfz17_2
      try clear hfz17_3
      try clear hfz22_0
      try clear hfz22_1
      try clear hfz22_2
      try clear hfz22_3
      try clear hfz25_0
      try clear hfz25_1
      try clear hfz25_2
      try clear hfz25_3
      try clear hx11_0
      try clear p11
      try clear q11
      obtain ⟨kq,x41_12,rfl,HA,HJ12,HO_6,HO_7,HO_202000,HO_202001,HO_202002,HO_202003,BK201,HB⟩:=hcut
      have hl202002_12:=(zW HO_202002.out).1
      rw [hl202002_12] at HO_202002
      (try simp only [hl202002_12])
      (try simp only [hl202002_12] at BK201)
      (try simp only [hl202002_12] at HO_6)
      (try simp only [hl202002_12] at HO_7)
      (try simp only [hl202002_12] at HO_202000)
      (try simp only [hl202002_12] at HO_202001)
      (try simp only [hl202002_12] at HO_202003)
      cases kq with
      | zero=>exact absurd HA.out (by simp [laws_FnLine.j0])
      | succ kj12 =>
       have H:=HA.out
       clear HA
       simp only [laws_FnLine.j0] at H
       by_cases c31 : x41_12 = true
       ·subst c31
        have H1 : (some false) = some r:=by rw [if_pos rfl] at H;exact H
        clear H
        have H:=H1
        clear H1
        obtain rfl:=Option.some.inj H
        go_wp2
        go_ret
        exact ⟨by first|rfl|(simp [errW_none,errW_some] <;> rfl)|(simp only [← hji8];first|rfl|(simp [errW_none,errW_some] <;> rfl))|(simp [*,errW_none,errW_some] <;> rfl),by repeat (first|(with_reducible first|exact HB.out|apply zA|apply zB|apply zC|refine zF ?_ GE201.out)|exact HB.out)⟩
       ·replace c31:=Bool.eq_false_iff.mpr c31
        subst c31
        have H1 : (laws_FnLine.l0 kj12 (wrap64 (1 + (Int.tmod t187 20))) ji8 t202 t206 0) = some r:=by rw [if_neg (show ¬ (false = true) by decide)] at H;exact H
        clear H
        have H:=H1
        clear H1
        have H':=zm H
        clear H
        go_wp2
        go_loopg [8] kj12 (fun kq v8 w'=>∃ (x8_2 : Int),v8 = .int .i64 x8_2∧Aside0 (laws_FnLine.l0 kq (wrap64 (1 + (Int.tmod t187 20))) ji8 t202 t206 x8_2 = some r)∧Aside0 (kq ≤ kj12)∧Aside0 (Kd.R (Kd.int .i64) 3 w' w.heap.size (fun k_=>some k_ ≠ (v207 : Value).ownBlock∧some k_ ≠ ((.slice Ao16 t189.length co16) : Value).ownBlock∧some k_ ≠ ((.slice Ao18 t192.length co18) : Value).ownBlock) v203 t202)∧Aside0 (Kd.R (Kd.int .i64) 3 w' w.heap.size (fun k_=>some k_ ≠ (v203 : Value).ownBlock∧some k_ ≠ ((.slice Ao16 t189.length co16) : Value).ownBlock∧some k_ ≠ ((.slice Ao18 t192.length co18) : Value).ownBlock) v207 t206)∧Aside0 (Kd.R (Kd.int .i64) 3 w' w.heap.size (fun k_=>some k_ ≠ (v203 : Value).ownBlock∧some k_ ≠ (v207 : Value).ownBlock∧some k_ ≠ ((.slice Ao18 t192.length co18) : Value).ownBlock) (.slice Ao16 t189.length co16) t189)∧Aside0 (Kd.R (Kd.int .i64) 3 w' w.heap.size (fun k_=>some k_ ≠ (v203 : Value).ownBlock∧some k_ ≠ (v207 : Value).ownBlock∧some k_ ≠ ((.slice Ao16 t189.length co16) : Value).ownBlock) (.slice Ao18 t192.length co18) t192)∧Aside0 (Kd.R Kd.bool 4 w' w.heap.size (fun _=>True) (.slice (some ⟨go11,0,none⟩) y205.length co19) y205)∧Aside0 (Kd.S (Kd.slice 4 Kd.bool) 26 w' w.heap.size (fun k_=>some k_ ≠ ((.slice (some ⟨go11,0,none⟩) y205.length co19) : Value).ownBlock) (.slice Ao20 t198.length co20) t198)∧Aside0 (w'.heap[gb201]? = some (.cells #[(.slice Ao16 t189.length co16),(.slice Ao18 t192.length co18),(.slice (some ⟨go11,0,none⟩) y205.length co19),(.slice Ao20 t198.length co20)] 29 (0,0)))∧Aside0 (Below w.heap.size w w'))
        case atStart=>exact ⟨(0),(by first|rfl|(simp;done)|(simp [*];done)),H',⟨Nat.le_refl _⟩,⟨by (try simp only [hl202002_12]);(with_reducible repeat (first|apply zP|apply zQ|apply zR));exact HO_6.out⟩,⟨by (try simp only [hl202002_12]);(with_reducible repeat (first|apply zP|apply zQ|apply zR));exact HO_7.out⟩,⟨by (try simp only [hl202002_12]);(with_reducible repeat (first|apply zP|apply zQ|apply zR));exact HO_202000.out⟩,⟨by (try simp only [hl202002_12]);(with_reducible repeat (first|apply zP|apply zQ|apply zR));exact HO_202001.out⟩,⟨by (try simp only [hl202002_12]);(with_reducible repeat (first|apply zP|apply zQ|apply zR));exact HO_202002.out⟩,⟨by (try simp only [hl202002_12]);(with_reducible repeat (first|apply zDb|apply zEb|apply zFb));exact HO_202003.out⟩,⟨by (try simp only [hl202002_12]);(with_reducible repeat (first|refine zH ?_ _|refine zI ?_|refine zG ?_ _));exact BK201.out⟩,⟨by repeat (first|(with_reducible first|exact HB.out|apply zA|apply zB|apply zC|refine zF ?_ GE201.out)|exact HB.out)⟩⟩
        case round =>
         clear H'
         try clear c1
         try clear p1
         try clear q1
         try clear hx1
         try clear hf1
         try clear c2
         try clear c2b0
         try clear c2b1
         try clear p2
         try clear c3
         try clear c4
         try clear c5
         try clear c5b0
         try clear c5b1
         try clear c6
         try clear p6
         try clear c7
         try clear c8
         try clear c9
         try clear c9b0
         try clear c10
         try clear c10b0
         try clear p11
         try clear q11
         try clear hx11
         try clear hf11
         try clear c27
         try clear c27b0
         try clear c27b1
         try clear c31
         try clear hcz17_0
         try clear hcz17_1
         try clear hcz17_2
         try clear hcz17_3
         try clear hcz22_0
         try clear hcz22_1
         try clear hcz22_2
         try clear hcz22_3
         try clear hcz25_0
         try clear hcz25_1
         try clear hcz25_2
         try clear hcz25_3
         try clear hfz17_0
         try clear hfz17_1
         try clear hfz17_2
         try clear hfz17_3
         try clear hfz22_0
         try clear hfz22_1
         try clear hfz22_2
         try clear hfz22_3
         try clear hfz25_0
         try clear hfz25_1
         try clear hfz25_2
         try clear hfz25_3
         try clear hx11_0
         try clear p1
         try clear p11
         try clear p2
         try clear p6
         try clear q1
         try clear q11
         obtain ⟨x8_2,rfl,HA,HK2,HO_6,HO_7,HO_202000,HO_202001,HO_202002,HO_202003,BK201,HB⟩:=hrel
         cases gk with
         | zero=>exact absurd HA.out (by simp [laws_FnLine.l0])
         | succ k2 =>
          have H:=HA.out
          clear HA
          simp only [laws_FnLine.l0] at H
          by_cases c32 : x8_2 < (wrap64 (1 + (Int.tmod t187 20)))
          ·rw [if_pos c32] at H
           have c32b0 : decide (x8_2 < (wrap64 (1 + (Int.tmod t187 20)))) = true:=decide_eq_true c32
           have c32b0_h:=c32b0
           (try simp only [hl202002_12] at c32b0_h)
           clear c32
           have HC33:=zm H
           clear H
           go_upto_if 50 with (fail)
           go_cut [9] (fun v9 wc=>∃ (kq : Nat) (x9_32 : Int),v9 = .int .i64 x9_32∧Aside0 (laws_FnLine.j2 kq (wrap64 (1 + (Int.tmod t187 20))) ji8 t202 t206 x8_2 x9_32 = some r)∧Aside0 (kq ≤ k2)∧Aside0 (Kd.R (Kd.int .i64) 3 wc w.heap.size (fun k_=>some k_ ≠ (v207 : Value).ownBlock∧some k_ ≠ ((.slice Ao16 t189.length co16) : Value).ownBlock∧some k_ ≠ ((.slice Ao18 t192.length co18) : Value).ownBlock) v203 t202)∧Aside0 (Kd.R (Kd.int .i64) 3 wc w.heap.size (fun k_=>some k_ ≠ (v203 : Value).ownBlock∧some k_ ≠ ((.slice Ao16 t189.length co16) : Value).ownBlock∧some k_ ≠ ((.slice Ao18 t192.length co18) : Value).ownBlock) v207 t206)∧Aside0 (Kd.R (Kd.int .i64) 3 wc w.heap.size (fun k_=>some k_ ≠ (v203 : Value).ownBlock∧some k_ ≠ (v207 : Value).ownBlock∧some k_ ≠ ((.slice Ao18 t192.length co18) : Value).ownBlock) (.slice Ao16 t189.length co16) t189)∧Aside0 (Kd.R (Kd.int .i64) 3 wc w.heap.size (fun k_=>some k_ ≠ (v203 : Value).ownBlock∧some k_ ≠ (v207 : Value).ownBlock∧some k_ ≠ ((.slice Ao16 t189.length co16) : Value).ownBlock) (.slice Ao18 t192.length co18) t192)∧Aside0 (Kd.R Kd.bool 4 wc w.heap.size (fun _=>True) (.slice (some ⟨go11,0,none⟩) y205.length co19) y205)∧Aside0 (Kd.S (Kd.slice 4 Kd.bool) 26 wc w.heap.size (fun k_=>some k_ ≠ ((.slice (some ⟨go11,0,none⟩) y205.length co19) : Value).ownBlock) (.slice Ao20 t198.length co20) t198)∧Aside0 (wc.heap[gb201]? = some (.cells #[(.slice Ao16 t189.length co16),(.slice Ao18 t192.length co18),(.slice (some ⟨go11,0,none⟩) y205.length co19),(.slice Ao20 t198.length co20)] 29 (0,0)))∧Aside0 (Below w.heap.size w wc))
           case first =>
            have H:=HC33.out
            clear HC33
            by_cases c34 : (wrap64 (x8_2 + 1)) > 3
            ·rw [if_pos c34] at H
             have c34b0 : decide (3 < (wrap64 (x8_2 + 1))) = true:=decide_eq_true c34
             have c34b0_h:=c34b0
             (try simp only [hl202002_12] at c34b0_h)
             clear c34
             (first|rw [c34b0]|(simp only [i64_w,i32_w];rw [c34b0])|skip)
             have H':=zm H
             clear H
             go_wp2
             go_meet
             case rel=>exact ⟨_,(3),(by first|rfl|(simp;done)|(simp [*];done)),H',⟨by have:=HJ12.out;have:=HK2.out;first|omega|exact Nat.le_refl _⟩,⟨by (try simp only [hl202002_12]);(with_reducible repeat (first|apply zP|apply zQ|apply zR));exact HO_6.out⟩,⟨by (try simp only [hl202002_12]);(with_reducible repeat (first|apply zP|apply zQ|apply zR));exact HO_7.out⟩,⟨by (try simp only [hl202002_12]);(with_reducible repeat (first|apply zP|apply zQ|apply zR));exact HO_202000.out⟩,⟨by (try simp only [hl202002_12]);(with_reducible repeat (first|apply zP|apply zQ|apply zR));exact HO_202001.out⟩,⟨by (try simp only [hl202002_12]);(with_reducible repeat (first|apply zP|apply zQ|apply zR));exact HO_202002.out⟩,⟨by (try simp only [hl202002_12]);(with_reducible repeat (first|apply zDb|apply zEb|apply zFb));exact HO_202003.out⟩,⟨by (try simp only [hl202002_12]);(with_reducible repeat (first|refine zH ?_ _|refine zI ?_|refine zG ?_ _));exact BK201.out⟩,⟨by repeat (first|(with_reducible first|exact HB.out|apply zA|apply zB|apply zC|refine zF ?_ GE201.out)|exact HB.out)⟩⟩
            ·rw [if_neg c34] at H
             have c34b0 : decide (3 < (wrap64 (x8_2 + 1))) = false:=decide_eq_false c34
             have c34b0_h:=c34b0
             (try simp only [hl202002_12] at c34b0_h)
             clear c34
             (first|rw [c34b0]|(simp only [i64_w,i32_w];rw [c34b0])|skip)
             have H':=zm H
             clear H
             go_wp2
             go_meet
             case rel=>exact ⟨_,(wrap64 (x8_2 + 1)),(by first|rfl|(simp;done)|(simp [*];done)),H',⟨by have:=HJ12.out;have:=HK2.out;first|omega|exact Nat.le_refl _⟩,⟨by (try simp only [hl202002_12]);(with_reducible repeat (first|apply zP|apply zQ|apply zR));exact HO_6.out⟩,⟨by (try simp only [hl202002_12]);(with_reducible repeat (first|apply zP|apply zQ|apply zR));exact HO_7.out⟩,⟨by (try simp only [hl202002_12]);(with_reducible repeat (first|apply zP|apply zQ|apply zR));exact HO_202000.out⟩,⟨by (try simp only [hl202002_12]);(with_reducible repeat (first|apply zP|apply zQ|apply zR));exact HO_202001.out⟩,⟨by (try simp only [hl202002_12]);(with_reducible repeat (first|apply zP|apply zQ|apply zR));exact HO_202002.out⟩,⟨by (try simp only [hl202002_12]);(with_reducible repeat (first|apply zDb|apply zEb|apply zFb));exact HO_202003.out⟩,⟨by (try simp only [hl202002_12]);(with_reducible repeat (first|refine zH ?_ _|refine zI ?_|refine zG ?_ _));exact BK201.out⟩,⟨by repeat (first|(with_reducible first|exact HB.out|apply zA|apply zB|apply zC|refine zF ?_ GE201.out)|exact HB.out)⟩⟩
           case rest =>
            clear HC33
            try clear c1
            try clear p1
            try clear q1
            try clear hx1
            try clear hf1
            try clear c2
            try clear c2b0
            try clear c2b1
            try clear p2
            try clear c3
            try clear c4
            try clear c5
            try clear c5b0
            try clear c5b1
            try clear c6
            try clear p6
            try clear c7
            try clear c8
            try clear c9
            try clear c9b0
            try clear c10
            try clear c10b0
            try clear p11
            try clear q11
            try clear hx11
            try clear hf11
            try clear c27
            try clear c27b0
            try clear c27b1
            try clear c31
            try clear c32
            try clear c32b0
            try clear c34
            try clear c34b0
            try clear hcz17_0
            try clear hcz17_1
            try clear hcz17_2
            try clear hcz17_3
            try clear hcz22_0
            try clear hcz22_1
            try clear hcz22_2
            try clear hcz22_3
            try clear hcz25_0
            try clear hcz25_1
            try clear hcz25_2
            try clear hcz25_3
            try clear hfz17_0
            try clear hfz17_1
            try clear hfz17_2
            try clear hfz17_3
            try clear hfz22_0
            try clear hfz22_1
            try clear hfz22_2
            try clear hfz22_3
            try clear hfz25_0
            try clear hfz25_1
            try clear hfz25_2
            try clear hfz25_3
            try clear hx11_0
            try clear p1
            try clear p11
            try clear p2
            try clear p6
            try clear q1
            try clear q11
            obtain ⟨kq,x9_32,rfl,HA,HJ32,HO_6,HO_7,HO_202000,HO_202001,HO_202002,HO_202003,BK201,HB⟩:=hcut
            cases kq with
            | zero=>exact absurd HA.out (by simp [laws_FnLine.j2])
            | succ kj32 =>
             have H:=HA.out
             clear HA
             simp only [laws_FnLine.j2] at H
             by_cases c35 : x8_2 ≥ ji8
             ·rw [if_pos c35] at H
              have c35b0 : decide (ji8 ≤ x8_2) = true:=decide_eq_true c35
              have c35b0_h:=c35b0
              (try simp only [hl202002_12] at c35b0_h)
              clear c35
              by_cases c36 : (wrap64 (x8_2 - ji8)) > 3
              ·rw [if_pos c36] at H
               have c36b0 : decide (3 < (wrap64 (x8_2 - ji8))) = true:=decide_eq_true c36
               have c36b0_h:=c36b0
               (try simp only [hl202002_12] at c36b0_h)
               clear c36
               by_cases c37 : 0 ≤ x8_2
               ·rw [if_pos c37] at H
                have c37b0 : decide (0 ≤ x8_2) = true:=decide_eq_true c37
                have c37b0_h:=c37b0
                (try simp only [hl202002_12] at c37b0_h)
                clear c37
                by_cases c38 : x8_2 < (t202.length : Int)
                ·rw [if_pos c38] at H
                 have c38b0 : decide (x8_2 < (t202.length : Int)) = true:=decide_eq_true c38
                 have c38b0_h:=c38b0
                 (try simp only [hl202002_12] at c38b0_h)
                 clear c38
                 by_cases c39 : (rd t202 x8_2) = x9_32
                 ·rw [if_pos c39] at H
                  have c39b0 : ((rd t202 x8_2) == x9_32) = true:=beq_iff_eq.mpr c39
                  have c39b1 : ((rd t202 x8_2) != x9_32) = false:=bne_eq_false_iff_eq.mpr c39
                  clear c39
                  by_cases c40 : x8_2 < (t206.length : Int)
                  ·rw [if_pos c40] at H
                   have c40b0 : decide (x8_2 < (t206.length : Int)) = true:=decide_eq_true c40
                   have c40b0_h:=c40b0
                   (try simp only [hl202002_12] at c40b0_h)
                   clear c40
                   by_cases c41 : (rd t206 x8_2) = 3
                   ·rw [if_pos c41] at H
                    have c41b0 : ((rd t206 x8_2) == 3) = true:=beq_iff_eq.mpr c41
                    have c41b1 : ((rd t206 x8_2) != 3) = false:=bne_eq_false_iff_eq.mpr c41
                    clear c41
                    have H':=zm H
                    clear H
                    obtain ⟨Ao42,co42,eo42⟩:=zAb HO_6.out
                    subst eo42
                    have p209 : 0 ≤ (x8_2 : Int):=of_decide_eq_true (by first|(with_reducible assumption)|assumption)
                    have q209 : x8_2 < (t202.length : Int):=of_decide_eq_true (by first|(with_reducible assumption)|assumption)
                    obtain ⟨ad209,e209,hx209_0⟩:=Kd.at_int (zW HO_6.out).2.2 x8_2 p209 q209
                    cases e209
                    replace p209:=eq_true p209
                    replace q209:=eq_true q209
                    obtain ⟨Ao43,co43,eo43⟩:=zAb HO_7.out
                    subst eo43
                    have p210 : 0 ≤ (x8_2 : Int):=of_decide_eq_true (by first|(with_reducible assumption)|assumption)
                    have q210 : x8_2 < (t206.length : Int):=of_decide_eq_true (by first|(with_reducible assumption)|assumption)
                    obtain ⟨ad210,e210,hx210_0⟩:=Kd.at_int (zW HO_7.out).2.2 x8_2 p210 q210
                    cases e210
                    replace p210:=eq_true p210
                    replace q210:=eq_true q210
                    go_wp2
                    go_roundg kj32
                    case measure=>have:=HJ12.out;have:=HK2.out;have:=HJ32.out;omega
                    case rel=>exact ⟨(wrap64 (x8_2 + 1)),(by first|rfl|(simp;done)|(simp [*];done)),H',⟨by have:=HJ12.out;have:=HK2.out;have:=HJ32.out;omega⟩,⟨by (try simp only [hl202002_12]);(with_reducible repeat (first|apply zP|apply zQ|apply zR));exact HO_6.out⟩,⟨by (try simp only [hl202002_12]);(with_reducible repeat (first|apply zP|apply zQ|apply zR));exact HO_7.out⟩,⟨by (try simp only [hl202002_12]);(with_reducible repeat (first|apply zP|apply zQ|apply zR));exact HO_202000.out⟩,⟨by (try simp only [hl202002_12]);(with_reducible repeat (first|apply zP|apply zQ|apply zR));exact HO_202001.out⟩,⟨by (try simp only [hl202002_12]);(with_reducible repeat (first|apply zP|apply zQ|apply zR));exact HO_202002.out⟩,⟨by (try simp only [hl202002_12]);(with_reducible repeat (first|apply zDb|apply zEb|apply zFb));exact HO_202003.out⟩,⟨by (try simp only [hl202002_12]);(with_reducible repeat (first|refine zH ?_ _|refine zI ?_|refine zG ?_ _));exact BK201.out⟩,⟨by repeat (first|(with_reducible first|exact HB.out|apply zA|apply zB|apply zC|refine zF ?_ GE201.out)|exact HB.out)⟩⟩
                   ·rw [if_neg c41] at H
                    have c41b0 : ((rd t206 x8_2) == 3) = false:=beq_eq_false_iff_ne.mpr c41
                    have c41b1 : ((rd t206 x8_2) != 3) = true:=bne_iff_ne.mpr c41
                    obtain rfl:=Option.some.inj H
                    obtain ⟨Ao44,co44,eo44⟩:=zAb HO_6.out
                    subst eo44
                    have p209 : 0 ≤ (x8_2 : Int):=of_decide_eq_true (by first|(with_reducible assumption)|assumption)
                    have q209 : x8_2 < (t202.length : Int):=of_decide_eq_true (by first|(with_reducible assumption)|assumption)
                    obtain ⟨ad209,e209,hx209_0⟩:=Kd.at_int (zW HO_6.out).2.2 x8_2 p209 q209
                    cases e209
                    replace p209:=eq_true p209
                    replace q209:=eq_true q209
                    obtain ⟨Ao45,co45,eo45⟩:=zAb HO_7.out
                    subst eo45
                    have p210 : 0 ≤ (x8_2 : Int):=of_decide_eq_true (by first|(with_reducible assumption)|assumption)
                    have q210 : x8_2 < (t206.length : Int):=of_decide_eq_true (by first|(with_reducible assumption)|assumption)
                    obtain ⟨ad210,e210,hx210_0⟩:=Kd.at_int (zW HO_7.out).2.2 x8_2 p210 q210
                    cases e210
                    replace p210:=eq_true p210
                    replace q210:=eq_true q210
                    go_wp2
                    go_ret
                    exact ⟨by first|rfl|(simp [errW_none,errW_some] <;> rfl)|(simp only [← hji8];first|rfl|(simp [errW_none,errW_some] <;> rfl))|(simp [*,errW_none,errW_some] <;> rfl),by repeat (first|(with_reducible first|exact HB.out|apply zA|apply zB|apply zC|refine zF ?_ GE201.out)|exact HB.out)⟩
                  ·rw [if_neg c40] at H
                   exact absurd H (by simp)
                 ·rw [if_neg c39] at H
                  have c39b0 : ((rd t202 x8_2) == x9_32) = false:=beq_eq_false_iff_ne.mpr c39
                  have c39b1 : ((rd t202 x8_2) != x9_32) = true:=bne_iff_ne.mpr c39
                  obtain rfl:=Option.some.inj H
                  obtain ⟨Ao46,co46,eo46⟩:=zAb HO_6.out
                  subst eo46
                  have p209 : 0 ≤ (x8_2 : Int):=of_decide_eq_true (by first|(with_reducible assumption)|assumption)
                  have q209 : x8_2 < (t202.length : Int):=of_decide_eq_true (by first|(with_reducible assumption)|assumption)
                  obtain ⟨ad209,e209,hx209_0⟩:=Kd.at_int (zW HO_6.out).2.2 x8_2 p209 q209
                  cases e209
                  replace p209:=eq_true p209
                  replace q209:=eq_true q209
                  go_wp2
                  go_ret
                  exact ⟨by first|rfl|(simp [errW_none,errW_some] <;> rfl)|(simp only [← hji8];first|rfl|(simp [errW_none,errW_some] <;> rfl))|(simp [*,errW_none,errW_some] <;> rfl),by repeat (first|(with_reducible first|exact HB.out|apply zA|apply zB|apply zC|refine zF ?_ GE201.out)|exact HB.out)⟩
                ·rw [if_neg c38] at H
                 exact absurd H (by simp)
               ·rw [if_neg c37] at H
                exact absurd H (by simp)
              ·rw [if_neg c36] at H
               have c36b0 : decide (3 < (wrap64 (x8_2 - ji8))) = false:=decide_eq_false c36
               have c36b0_h:=c36b0
               (try simp only [hl202002_12] at c36b0_h)
               clear c36
               by_cases c47 : 0 ≤ x8_2
               ·rw [if_pos c47] at H
                have c47b0 : decide (0 ≤ x8_2) = true:=decide_eq_true c47
                have c47b0_h:=c47b0
                (try simp only [hl202002_12] at c47b0_h)
                clear c47
                by_cases c48 : x8_2 < (t202.length : Int)
                ·rw [if_pos c48] at H
                 have c48b0 : decide (x8_2 < (t202.length : Int)) = true:=decide_eq_true c48
                 have c48b0_h:=c48b0
                 (try simp only [hl202002_12] at c48b0_h)
                 clear c48
                 by_cases c49 : (rd t202 x8_2) = x9_32
                 ·rw [if_pos c49] at H
                  have c49b0 : ((rd t202 x8_2) == x9_32) = true:=beq_iff_eq.mpr c49
                  have c49b1 : ((rd t202 x8_2) != x9_32) = false:=bne_eq_false_iff_eq.mpr c49
                  clear c49
                  by_cases c50 : x8_2 < (t206.length : Int)
                  ·rw [if_pos c50] at H
                   have c50b0 : decide (x8_2 < (t206.length : Int)) = true:=decide_eq_true c50
                   have c50b0_h:=c50b0
                   (try simp only [hl202002_12] at c50b0_h)
                   clear c50
                   by_cases c51 : (rd t206 x8_2) = (wrap64 (x8_2 - ji8))
                   ·rw [if_pos c51] at H
                    have c51b0 : ((rd t206 x8_2) == (wrap64 (x8_2 - ji8))) = true:=beq_iff_eq.mpr c51
                    have c51b1 : ((rd t206 x8_2) != (wrap64 (x8_2 - ji8))) = false:=bne_eq_false_iff_eq.mpr c51
                    clear c51
                    have H':=zm H
                    clear H
                    obtain ⟨Ao52,co52,eo52⟩:=zAb HO_6.out
                    subst eo52
                    have p211 : 0 ≤ (x8_2 : Int):=of_decide_eq_true (by first|(with_reducible assumption)|assumption)
                    have q211 : x8_2 < (t202.length : Int):=of_decide_eq_true (by first|(with_reducible assumption)|assumption)
                    obtain ⟨ad211,e211,hx211_0⟩:=Kd.at_int (zW HO_6.out).2.2 x8_2 p211 q211
                    cases e211
                    replace p211:=eq_true p211
                    replace q211:=eq_true q211
                    obtain ⟨Ao53,co53,eo53⟩:=zAb HO_7.out
                    subst eo53
                    have p212 : 0 ≤ (x8_2 : Int):=of_decide_eq_true (by first|(with_reducible assumption)|assumption)
                    have q212 : x8_2 < (t206.length : Int):=of_decide_eq_true (by first|(with_reducible assumption)|assumption)
                    obtain ⟨ad212,e212,hx212_0⟩:=Kd.at_int (zW HO_7.out).2.2 x8_2 p212 q212
                    cases e212
                    replace p212:=eq_true p212
                    replace q212:=eq_true q212
                    go_wp2
                    go_roundg kj32
                    case measure=>have:=HJ12.out;have:=HK2.out;have:=HJ32.out;omega
                    case rel=>exact ⟨(wrap64 (x8_2 + 1)),(by first|rfl|(simp;done)|(simp [*];done)),H',⟨by have:=HJ12.out;have:=HK2.out;have:=HJ32.out;omega⟩,⟨by (try simp only [hl202002_12]);(with_reducible repeat (first|apply zP|apply zQ|apply zR));exact HO_6.out⟩,⟨by (try simp only [hl202002_12]);(with_reducible repeat (first|apply zP|apply zQ|apply zR));exact HO_7.out⟩,⟨by (try simp only [hl202002_12]);(with_reducible repeat (first|apply zP|apply zQ|apply zR));exact HO_202000.out⟩,⟨by (try simp only [hl202002_12]);(with_reducible repeat (first|apply zP|apply zQ|apply zR));exact HO_202001.out⟩,⟨by (try simp only [hl202002_12]);(with_reducible repeat (first|apply zP|apply zQ|apply zR));exact HO_202002.out⟩,⟨by (try simp only [hl202002_12]);(with_reducible repeat (first|apply zDb|apply zEb|apply zFb));exact HO_202003.out⟩,⟨by (try simp only [hl202002_12]);(with_reducible repeat (first|refine zH ?_ _|refine zI ?_|refine zG ?_ _));exact BK201.out⟩,⟨by repeat (first|(with_reducible first|exact HB.out|apply zA|apply zB|apply zC|refine zF ?_ GE201.out)|exact HB.out)⟩⟩
                   ·rw [if_neg c51] at H
                    have c51b0 : ((rd t206 x8_2) == (wrap64 (x8_2 - ji8))) = false:=beq_eq_false_iff_ne.mpr c51
                    have c51b1 : ((rd t206 x8_2) != (wrap64 (x8_2 - ji8))) = true:=bne_iff_ne.mpr c51
                    obtain rfl:=Option.some.inj H
                    obtain ⟨Ao54,co54,eo54⟩:=zAb HO_6.out
                    subst eo54
                    have p211 : 0 ≤ (x8_2 : Int):=of_decide_eq_true (by first|(with_reducible assumption)|assumption)
                    have q211 : x8_2 < (t202.length : Int):=of_decide_eq_true (by first|(with_reducible assumption)|assumption)
                    obtain ⟨ad211,e211,hx211_0⟩:=Kd.at_int (zW HO_6.out).2.2 x8_2 p211 q211
                    cases e211
                    replace p211:=eq_true p211
                    replace q211:=eq_true q211
                    obtain ⟨Ao55,co55,eo55⟩:=zAb HO_7.out
                    subst eo55
                    have p212 : 0 ≤ (x8_2 : Int):=of_decide_eq_true (by first|(with_reducible assumption)|assumption)
                    have q212 : x8_2 < (t206.length : Int):=of_decide_eq_true (by first|(with_reducible assumption)|assumption)
                    obtain ⟨ad212,e212,hx212_0⟩:=Kd.at_int (zW HO_7.out).2.2 x8_2 p212 q212
                    cases e212
                    replace p212:=eq_true p212
                    replace q212:=eq_true q212
                    go_wp2
                    go_ret
                    exact ⟨by first|rfl|(simp [errW_none,errW_some] <;> rfl)|(simp only [← hji8];first|rfl|(simp [errW_none,errW_some] <;> rfl))|(simp [*,errW_none,errW_some] <;> rfl),by repeat (first|(with_reducible first|exact HB.out|apply zA|apply zB|apply zC|refine zF ?_ GE201.out)|exact HB.out)⟩
                  ·rw [if_neg c50] at H
                   exact absurd H (by simp)
                 ·rw [if_neg c49] at H
                  have c49b0 : ((rd t202 x8_2) == x9_32) = false:=beq_eq_false_iff_ne.mpr c49
                  have c49b1 : ((rd t202 x8_2) != x9_32) = true:=bne_iff_ne.mpr c49
                  obtain rfl:=Option.some.inj H
                  obtain ⟨Ao56,co56,eo56⟩:=zAb HO_6.out
                  subst eo56
                  have p211 : 0 ≤ (x8_2 : Int):=of_decide_eq_true (by first|(with_reducible assumption)|assumption)
                  have q211 : x8_2 < (t202.length : Int):=of_decide_eq_true (by first|(with_reducible assumption)|assumption)
                  obtain ⟨ad211,e211,hx211_0⟩:=Kd.at_int (zW HO_6.out).2.2 x8_2 p211 q211
                  cases e211
                  replace p211:=eq_true p211
                  replace q211:=eq_true q211
                  go_wp2
                  go_ret
                  exact ⟨by first|rfl|(simp [errW_none,errW_some] <;> rfl)|(simp only [← hji8];first|rfl|(simp [errW_none,errW_some] <;> rfl))|(simp [*,errW_none,errW_some] <;> rfl),by repeat (first|(with_reducible first|exact HB.out|apply zA|apply zB|apply zC|refine zF ?_ GE201.out)|exact HB.out)⟩
                ·rw [if_neg c48] at H
                 exact absurd H (by simp)
               ·rw [if_neg c47] at H
                exact absurd H (by simp)
             ·rw [if_neg c35] at H
              have c35b0 : decide (ji8 ≤ x8_2) = false:=decide_eq_false c35
              have c35b0_h:=c35b0
              (try simp only [hl202002_12] at c35b0_h)
              clear c35
              by_cases c57 : 0 ≤ x8_2
              ·rw [if_pos c57] at H
               have c57b0 : decide (0 ≤ x8_2) = true:=decide_eq_true c57
               have c57b0_h:=c57b0
               (try simp only [hl202002_12] at c57b0_h)
               clear c57
               by_cases c58 : x8_2 < (t202.length : Int)
               ·rw [if_pos c58] at H
                have c58b0 : decide (x8_2 < (t202.length : Int)) = true:=decide_eq_true c58
                have c58b0_h:=c58b0
                (try simp only [hl202002_12] at c58b0_h)
                clear c58
                by_cases c59 : (rd t202 x8_2) = x9_32
                ·rw [if_pos c59] at H
                 have c59b0 : ((rd t202 x8_2) == x9_32) = true:=beq_iff_eq.mpr c59
                 have c59b1 : ((rd t202 x8_2) != x9_32) = false:=bne_eq_false_iff_eq.mpr c59
                 clear c59
                 by_cases c60 : x8_2 < (t206.length : Int)
                 ·rw [if_pos c60] at H
                  have c60b0 : decide (x8_2 < (t206.length : Int)) = true:=decide_eq_true c60
                  have c60b0_h:=c60b0
                  (try simp only [hl202002_12] at c60b0_h)
                  clear c60
                  by_cases c61 : (rd t206 x8_2) = x9_32
                  ·rw [if_pos c61] at H
                   have c61b0 : ((rd t206 x8_2) == x9_32) = true:=beq_iff_eq.mpr c61
                   have c61b1 : ((rd t206 x8_2) != x9_32) = false:=bne_eq_false_iff_eq.mpr c61
                   clear c61
                   have H':=zm H
                   clear H
                   obtain ⟨Ao62,co62,eo62⟩:=zAb HO_6.out
                   subst eo62
                   have p213 : 0 ≤ (x8_2 : Int):=of_decide_eq_true (by first|(with_reducible assumption)|assumption)
                   have q213 : x8_2 < (t202.length : Int):=of_decide_eq_true (by first|(with_reducible assumption)|assumption)
                   obtain ⟨ad213,e213,hx213_0⟩:=Kd.at_int (zW HO_6.out).2.2 x8_2 p213 q213
                   cases e213
                   replace p213:=eq_true p213
                   replace q213:=eq_true q213
                   obtain ⟨Ao63,co63,eo63⟩:=zAb HO_7.out
                   subst eo63
                   have p214 : 0 ≤ (x8_2 : Int):=of_decide_eq_true (by first|(with_reducible assumption)|assumption)
                   have q214 : x8_2 < (t206.length : Int):=of_decide_eq_true (by first|(with_reducible assumption)|assumption)
                   obtain ⟨ad214,e214,hx214_0⟩:=Kd.at_int (zW HO_7.out).2.2 x8_2 p214 q214
                   cases e214
                   replace p214:=eq_true p214
                   replace q214:=eq_true q214
                   go_wp2
                   go_roundg kj32
                   case measure=>have:=HJ12.out;have:=HK2.out;have:=HJ32.out;omega
                   case rel=>exact ⟨(wrap64 (x8_2 + 1)),(by first|rfl|(simp;done)|(simp [*];done)),H',⟨by have:=HJ12.out;have:=HK2.out;have:=HJ32.out;omega⟩,⟨by (try simp only [hl202002_12]);(with_reducible repeat (first|apply zP|apply zQ|apply zR));exact HO_6.out⟩,⟨by (try simp only [hl202002_12]);(with_reducible repeat (first|apply zP|apply zQ|apply zR));exact HO_7.out⟩,⟨by (try simp only [hl202002_12]);(with_reducible repeat (first|apply zP|apply zQ|apply zR));exact HO_202000.out⟩,⟨by (try simp only [hl202002_12]);(with_reducible repeat (first|apply zP|apply zQ|apply zR));exact HO_202001.out⟩,⟨by (try simp only [hl202002_12]);(with_reducible repeat (first|apply zP|apply zQ|apply zR));exact HO_202002.out⟩,⟨by (try simp only [hl202002_12]);(with_reducible repeat (first|apply zDb|apply zEb|apply zFb));exact HO_202003.out⟩,⟨by (try simp only [hl202002_12]);(with_reducible repeat (first|refine zH ?_ _|refine zI ?_|refine zG ?_ _));exact BK201.out⟩,⟨by repeat (first|(with_reducible first|exact HB.out|apply zA|apply zB|apply zC|refine zF ?_ GE201.out)|exact HB.out)⟩⟩
                  ·rw [if_neg c61] at H
                   have c61b0 : ((rd t206 x8_2) == x9_32) = false:=beq_eq_false_iff_ne.mpr c61
                   have c61b1 : ((rd t206 x8_2) != x9_32) = true:=bne_iff_ne.mpr c61
                   obtain rfl:=Option.some.inj H
                   obtain ⟨Ao64,co64,eo64⟩:=zAb HO_6.out
                   subst eo64
                   have p213 : 0 ≤ (x8_2 : Int):=of_decide_eq_true (by first|(with_reducible assumption)|assumption)
                   have q213 : x8_2 < (t202.length : Int):=of_decide_eq_true (by first|(with_reducible assumption)|assumption)
                   obtain ⟨ad213,e213,hx213_0⟩:=Kd.at_int (zW HO_6.out).2.2 x8_2 p213 q213
                   cases e213
                   replace p213:=eq_true p213
                   replace q213:=eq_true q213
                   obtain ⟨Ao65,co65,eo65⟩:=zAb HO_7.out
                   subst eo65
                   have p214 : 0 ≤ (x8_2 : Int):=of_decide_eq_true (by first|(with_reducible assumption)|assumption)
                   have q214 : x8_2 < (t206.length : Int):=of_decide_eq_true (by first|(with_reducible assumption)|assumption)
                   obtain ⟨ad214,e214,hx214_0⟩:=Kd.at_int (zW HO_7.out).2.2 x8_2 p214 q214
                   cases e214
                   replace p214:=eq_true p214
                   replace q214:=eq_true q214
                   go_wp2
                   go_ret
                   exact ⟨by first|rfl|(simp [errW_none,errW_some] <;> rfl)|(simp only [← hji8];first|rfl|(simp [errW_none,errW_some] <;> rfl))|(simp [*,errW_none,errW_some] <;> rfl),by repeat (first|(with_reducible first|exact HB.out|apply zA|apply zB|apply zC|refine zF ?_ GE201.out)|exact HB.out)⟩
                 ·rw [if_neg c60] at H
                  exact absurd H (by simp)
                ·rw [if_neg c59] at H
                 have c59b0 : ((rd t202 x8_2) == x9_32) = false:=beq_eq_false_iff_ne.mpr c59
                 have c59b1 : ((rd t202 x8_2) != x9_32) = true:=bne_iff_ne.mpr c59
                 obtain rfl:=Option.some.inj H
                 obtain ⟨Ao66,co66,eo66⟩:=zAb HO_6.out
                 subst eo66
                 have p213 : 0 ≤ (x8_2 : Int):=of_decide_eq_true (by first|(with_reducible assumption)|assumption)
                 have q213 : x8_2 < (t202.length : Int):=of_decide_eq_true (by first|(with_reducible assumption)|assumption)
                 obtain ⟨ad213,e213,hx213_0⟩:=Kd.at_int (zW HO_6.out).2.2 x8_2 p213 q213
                 cases e213
                 replace p213:=eq_true p213
                 replace q213:=eq_true q213
                 go_wp2
                 go_ret
                 exact ⟨by first|rfl|(simp [errW_none,errW_some] <;> rfl)|(simp only [← hji8];first|rfl|(simp [errW_none,errW_some] <;> rfl))|(simp [*,errW_none,errW_some] <;> rfl),by repeat (first|(with_reducible first|exact HB.out|apply zA|apply zB|apply zC|refine zF ?_ GE201.out)|exact HB.out)⟩
               ·rw [if_neg c58] at H
                exact absurd H (by simp)
              ·rw [if_neg c57] at H
               exact absurd H (by simp)
          ·rw [if_neg c32] at H
           have c32b0 : decide (x8_2 < (wrap64 (1 + (Int.tmod t187 20)))) = false:=decide_eq_false c32
           have c32b0_h:=c32b0
           (try simp only [hl202002_12] at c32b0_h)
           clear c32
           obtain rfl:=Option.some.inj H
           go_wp2
           go_ret
           exact ⟨by first|rfl|(simp [errW_none,errW_some] <;> rfl)|(simp only [← hji8];first|rfl|(simp [errW_none,errW_some] <;> rfl))|(simp [*,errW_none,errW_some] <;> rfl),by repeat (first|(with_reducible first|exact HB.out|apply zA|apply zB|apply zC|refine zF ?_ GE201.out)|exact HB.out)⟩
    ·rw [if_neg c10] at H
     exact absurd H (by simp)
   ·rw [if_neg c9] at H
    exact absurd H (by simp)

/-- THE ONE PURE STATEMENT of laws_FnLine: yours. -/
def laws_FnLine.Pure : Prop:=∀ (l0 : List Int),l0.length ≤ maxLen→l0.length * 1 ≤ 140737488351232→(∀ x ∈ l0,(Lit.int .u8 x).wf = true)→∃ k,laws_FnLine.f k l0 = some true
theorem laws_FnLine.walk (P : laws_FnLine.Pure) (a0 : Option Addr) (len0 cap0 : Nat) (z0 : List Int) (w : World) (w0 : (a0 = none∧len0 = 0∧cap0 = 0∧z0 = []) ∨ ∃ x,a0 = some x∧len0 ≤ cap0∧cap0 ≤ maxLen∧z0.length = cap0∧(∀ i,i < z0.length→w.cell? (x.add i) = some (.int .u8 (z0.getD i 0)))∧∀ n ∈ z0,(Lit.int .u8 n).wf = true) (y0 : len0 * 1 ≤ 140737488351232) :
  Calls Try.prog 4 #[.slice a0 len0 cap0] w fun e w'=>e = .returned (.bool true)∧Below w.heap.size w w':=by
 obtain ⟨l0,rfl,hr0,hm0,hw0,hc0⟩:=ReadsInt.ofRowC w0
 obtain ⟨k,h⟩:=P l0 hm0 y0 hw0
 refine (laws_FnLine.calls k _ _ l0 true w (Kd.C_of_reads (d:=(0 : Int)) (h1:=fun _=>rfl) hr0) hc0 h).mono ?_
 rintro e w' ⟨rfl,hd⟩
 exact ⟨rfl,hd⟩

end Go.Proofs.Ytlojolldbbooeaa.P
