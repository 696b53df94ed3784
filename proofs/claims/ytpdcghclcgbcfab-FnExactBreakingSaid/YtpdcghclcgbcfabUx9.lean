-- written by a program of this session (after the kit's print), not trusted: Lean checks it
import Derived.Test.YtpdcghclcgbcfabUx0
namespace Go.Proofs.Ytpdcghclcgbcfab.U
open Go.RowKit Go.Proofs.YtpdcghclcgbcfabW.PrintWords Go.Proofs.YtpdcghclcgbcfabW.PrintLast Go.Proofs.YtpdcghclcgbcfabW.PrintMore
open Go.Proofs.YtpdcghclcgbcfabW.PrintWords renaming below_alloc → zA, below_drew1 → zC, below_size → zJ, below_step → zK, gate_dst → zM, pw_below_drewN → zB
open Go.Proofs.YtpdcghclcgbcfabW.PrintWords.Kd renaming C_alloc → zT, C_below → zY, C_drew → zV, C_drewN → zU, R_alloc → zP, R_drew → zR, R_drewN → zQ, R_lower → zZ
open Go.Proofs.YtpdcghclcgbcfabW.PrintWords.Aside0 renaming mk → zm
attribute [local go_sem] max2_int min2_int max_two min_two max_three min_three max_four min_four   -- for this text's walks alone
set_option linter.unusedVariables false
set_option linter.unusedSimpArgs false

/-! ### slices_Clone_bool_bool: function 48 -/
def slices_Clone_bool_bool.f (l0 : List Bool) : Option (List Bool):=(some (([] : List Bool) : List Bool)).bind fun y262=>(if y262.length + l0.length < 140737488355328 then (some (y262 ++ l0)) else (none))
set_option maxHeartbeats 8000000 in
set_option maxRecDepth 100000 in
theorem slices_Clone_bool_bool.calls (A0 : Option Addr) (c0 : Nat) (l0 : List Bool) (r : List Bool) (w : World) (hr0 : Kd.C Kd.bool w A0 l0.length l0) (hc0 : l0.length ≤ c0) (h : slices_Clone_bool_bool.f l0 = some r) :
  Calls Try.prog 48 #[.slice A0 l0.length c0] w fun e w'=>∃ v0_ : Value,e = .returned (v0_)∧Kd.R Kd.bool 4 w' w.heap.size (fun _=>True) v0_ r∧Below w.heap.size w w':=by
 have HR0:=zm hr0;have HC0:=zm hc0;clear hr0 hc0;have HB:=zm (Below.refl w.heap.size w);have H : ((some (([] : List Bool) : List Bool)).bind fun y262=>(if y262.length + l0.length < 140737488355328 then (some (y262 ++ l0)) else (none))) = some r:=h
 clear h;obtain ⟨y262,hy262⟩ : ∃ y_ : List Bool,y_ = (([] : List Bool)):=⟨_,rfl⟩;replace H : (if y262.length + l0.length < 140737488355328 then (some (y262 ++ l0)) else (none)) = some r:=by first|(rw [hy262];with_reducible exact H)|(have H2_:=(Option.bind_some _ _).symm.trans H;rw [hy262];with_reducible exact H2_)|(have H2_:=(Option.bind_some _ _).symm.trans H;with_reducible exact H2_)|with_reducible exact H|(rw [hy262];exact H)|exact H
 have Ny262:=zm hy262;clear hy262;by_cases c2 : y262.length + l0.length < 140737488355328
 ·rw [if_pos c2] at H;have LMc2:=zm c2;clear c2;obtain ⟨y265,hy265⟩ : ∃ y_ : List Bool,y_ = (y262 ++ l0):=⟨_,rfl⟩;replace H : (some y265) = some r:=by first|(rw [hy265];with_reducible exact H)|(have H2_:=(Option.bind_some _ _).symm.trans H;rw [hy265];with_reducible exact H2_)|(have H2_:=(Option.bind_some _ _).symm.trans H;with_reducible exact H2_)|with_reducible exact H|(rw [hy265];exact H)|exact H
  have Ny265:=zm hy265;clear hy265;obtain rfl:=Option.some.inj H;have hnil:=fun w a n c n' c'=>Lib.run_eql_slice_nil (P:=Try.prog) w 23 4 a n c n' c' Try.underlying23
  rcases A0 with _|A0
  ·have hl0 : l0 = []:=by
    cases l0 with
    | nil=>rfl
    | cons x xs=>obtain ⟨ad,he,_⟩:=HR0.out.2.2 (by simp);cases he
   subst hl0
   have hy : y265 = []:=by rw [Ny265.out,Ny262.out];rfl
   subst hy
   go_enter Try.func48,Try.ntmps48
   go_wp2;go_ret
   exact ⟨_,rfl,Kd.R_nil _ _ _ _ _,HB.out⟩
  go_enter Try.func48,Try.ntmps48
  go_wp2_with (first|((with_reducible refine zM (N:=5) rfl ?_);refine Kd.R_lit Kd.bool _ 4 ?hg (N:=5) ?hd (xs:=([] : List Bool)) (inner:=[]) (ok:=fun _=>True) (okp:=fun _=>True) ?hr ?hp (fun _ hk=>hk) trivial (Below.refl _ _) (Nat.le_refl _) (by simp) ?_;(case hd=>rfl);(case hg=>rfl);(case hr=>first|(go_simp;done)|(go_simp;rfl));(case hp=>exact (Reps.none _ _));intro v263 w3 ho4 hb hg_ hnew_;clear hg_ hnew_;(first|rw [← Ny262.out] at ho4|(simp only [Int.reduceToNat] at ho4;rw [← Ny262.out] at ho4));have n0_:=zm (zZ ho4 (zJ (by repeat (first|(with_reducible first|exact HB.out|apply zA|apply zB|apply zC)|exact HB.out))));have n1_:=zm (zK (by repeat (first|(with_reducible first|exact HB.out|apply zA|apply zB|apply zC)|exact HB.out)) hb);clear HB;have HO264:=n0_;have HB:=n1_;clear n0_ n1_;clear hb ho4)|((with_reducible refine gate_builtin (b:=.append) (xs:=#[.tmp 5,.tmp 6]) rfl ?_);at_builtin;refine Kd.R_append_rows Kd.bool (w0:=w) w.heap.size rfl (.tmp 5) (.tmp 6) 23 4 (.bool false) 1 rfl Try.underlying23 info4 rfl (by decide) (by omega) v263 y262 l0 _ _ _ (fun _=>True) (fun _=>False) rfl rfl ?aO ?aR (fun _ _ h=>h) (fun _ h=>h.elim) ?aF ?aB ?aS ?aL ?_;(case aR=>repeat (first|exact (zY HR0.out HB.out)|(with_reducible refine zT ?_ _)|(with_reducible refine zU ?_ _)|(with_reducible refine zV ?_)));(case aB=>exact (by repeat (first|(with_reducible first|exact HB.out|apply zA|apply zB|apply zC)|exact HB.out)));(case aF=>exact (fun _ _=>trivial));(case aO=>exact (by (with_reducible repeat (first|apply zP|apply zQ|apply zR));exact HO264.out));(case aS=>exact (zJ (by repeat (first|(with_reducible first|exact HB.out|apply zA|apply zB|apply zC)|exact HB.out))));(case aL=>have:=LMc2.out;omega);intro v266 w5 ho hb hg hat;rw [← Ny265.out] at ho;have n0_:=zm (hb);have n1_:=zm (ho);clear HB;clear HO264;have HB:=n0_;have HO267:=n1_;clear n0_ n1_;clear ho hb hg hat))
  go_ret
  exact ⟨_,by first|rfl|(simp [errW_none,errW_some] <;> rfl)|(simp [*,errW_none,errW_some] <;> rfl),by (with_reducible repeat (first|apply zP|apply zQ|apply zR));exact HO267.out,by repeat (first|(with_reducible first|exact HB.out|apply zA|apply zB|apply zC)|exact HB.out)⟩
 ·rw [if_neg c2] at H;exact absurd H (by simp)

end Go.Proofs.Ytpdcghclcgbcfab.U
