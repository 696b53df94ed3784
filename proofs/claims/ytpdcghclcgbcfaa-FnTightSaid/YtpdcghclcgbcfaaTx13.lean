-- written by a program of this session (after the kit's print), not trusted: Lean checks it
import Derived.Test.YtpdcghclcgbcfaaTx0
namespace Go.Proofs.Ytpdcghclcgbcfaa.T
open Go.RowKit Go.Proofs.YtpdcghclcgbcfaaW.PrintWords Go.Proofs.YtpdcghclcgbcfaaW.PrintLast Go.Proofs.YtpdcghclcgbcfaaW.PrintMore
open Go.Proofs.YtpdcghclcgbcfaaW.PrintWords renaming below_alloc → zA, below_drew1 → zC, below_size → zJ, below_step → zK, gate_dst → zM, pw_below_drewN → zB
open Go.Proofs.YtpdcghclcgbcfaaW.PrintWords.Kd renaming C_alloc → zT, C_below → zY, C_drew → zV, C_drewN → zU, R_alloc → zP, R_drew → zR, R_drewN → zQ, R_lower → zZ
open Go.Proofs.YtpdcghclcgbcfaaW.PrintWords.Aside0 renaming mk → zm
attribute [local go_sem] max2_int min2_int max_two min_two max_three min_three max_four min_four   -- for this text's walks alone
set_option linter.unusedVariables false
set_option linter.unusedSimpArgs false

/-! ### slices_Clone_bool_bool: function 72 -/
def slices_Clone_bool_bool.f (l0 : List Bool) : Option (List Bool):=(some (([] : List Bool) : List Bool)).bind fun y288=>(if y288.length + l0.length < 140737488355328 then (some (y288 ++ l0)) else (none))
set_option maxHeartbeats 8000000 in
set_option maxRecDepth 100000 in
theorem slices_Clone_bool_bool.calls (A0 : Option Addr) (c0 : Nat) (l0 : List Bool) (r : List Bool) (w : World) (hr0 : Kd.C Kd.bool w A0 l0.length l0) (hc0 : l0.length ≤ c0) (h : slices_Clone_bool_bool.f l0 = some r) :
  Calls Try.prog 72 #[.slice A0 l0.length c0] w fun e w'=>∃ v0_ : Value,e = .returned (v0_)∧Kd.R Kd.bool 4 w' w.heap.size (fun _=>True) v0_ r∧Below w.heap.size w w':=by
 have HR0:=zm hr0;have HC0:=zm hc0;clear hr0 hc0;have HB:=zm (Below.refl w.heap.size w);have H : ((some (([] : List Bool) : List Bool)).bind fun y288=>(if y288.length + l0.length < 140737488355328 then (some (y288 ++ l0)) else (none))) = some r:=h
 clear h;obtain ⟨y288,hy288⟩ : ∃ y_ : List Bool,y_ = (([] : List Bool)):=⟨_,rfl⟩;replace H : (if y288.length + l0.length < 140737488355328 then (some (y288 ++ l0)) else (none)) = some r:=by first|(rw [hy288];with_reducible exact H)|(have H2_:=(Option.bind_some _ _).symm.trans H;rw [hy288];with_reducible exact H2_)|(have H2_:=(Option.bind_some _ _).symm.trans H;with_reducible exact H2_)|with_reducible exact H|(rw [hy288];exact H)|exact H
 have Ny288:=zm hy288;clear hy288;by_cases c2 : y288.length + l0.length < 140737488355328
 ·rw [if_pos c2] at H;have LMc2:=zm c2;clear c2;obtain ⟨y291,hy291⟩ : ∃ y_ : List Bool,y_ = (y288 ++ l0):=⟨_,rfl⟩;replace H : (some y291) = some r:=by first|(rw [hy291];with_reducible exact H)|(have H2_:=(Option.bind_some _ _).symm.trans H;rw [hy291];with_reducible exact H2_)|(have H2_:=(Option.bind_some _ _).symm.trans H;with_reducible exact H2_)|with_reducible exact H|(rw [hy291];exact H)|exact H
  have Ny291:=zm hy291;clear hy291;obtain rfl:=Option.some.inj H;have hnil:=fun w a n c n' c'=>Lib.run_eql_slice_nil (P:=Try.prog) w 24 4 a n c n' c' Try.underlying24
  rcases A0 with _|A0
  ·have hl0 : l0 = []:=by
    cases l0 with
    | nil=>rfl
    | cons x xs=>obtain ⟨ad,he,_⟩:=HR0.out.2.2 (by simp);cases he
   subst hl0
   have hy : y291 = []:=by rw [Ny291.out,Ny288.out];rfl
   subst hy
   go_enter Try.func72,Try.ntmps72
   go_wp2;go_ret
   exact ⟨_,rfl,Kd.R_nil _ _ _ _ _,HB.out⟩
  go_enter Try.func72,Try.ntmps72
  go_wp2_with (first|((with_reducible refine zM (N:=5) rfl ?_);refine Kd.R_lit Kd.bool _ 4 ?hg (N:=5) ?hd (xs:=([] : List Bool)) (inner:=[]) (ok:=fun _=>True) (okp:=fun _=>True) ?hr ?hp (fun _ hk=>hk) trivial (Below.refl _ _) (Nat.le_refl _) (by simp) ?_;(case hd=>rfl);(case hg=>rfl);(case hr=>first|(go_simp;done)|(go_simp;rfl));(case hp=>exact (Reps.none _ _));intro v289 w3 ho4 hb hg_ hnew_;clear hg_ hnew_;(first|rw [← Ny288.out] at ho4|(simp only [Int.reduceToNat] at ho4;rw [← Ny288.out] at ho4));have n0_:=zm (zZ ho4 (zJ (by repeat (first|(with_reducible first|exact HB.out|apply zA|apply zB|apply zC)|exact HB.out))));have n1_:=zm (zK (by repeat (first|(with_reducible first|exact HB.out|apply zA|apply zB|apply zC)|exact HB.out)) hb);clear HB;have HO290:=n0_;have HB:=n1_;clear n0_ n1_;clear hb ho4)|((with_reducible refine gate_builtin (b:=.append) (xs:=#[.tmp 5,.tmp 6]) rfl ?_);at_builtin;refine Kd.R_append_rows Kd.bool (w0:=w) w.heap.size rfl (.tmp 5) (.tmp 6) 24 4 (.bool false) 1 rfl Try.underlying24 info4 rfl (by decide) (by omega) v289 y288 l0 _ _ _ (fun _=>True) (fun _=>False) rfl rfl ?aO ?aR (fun _ _ h=>h) (fun _ h=>h.elim) ?aF ?aB ?aS ?aL ?_;(case aR=>repeat (first|exact (zY HR0.out HB.out)|(with_reducible refine zT ?_ _)|(with_reducible refine zU ?_ _)|(with_reducible refine zV ?_)));(case aB=>exact (by repeat (first|(with_reducible first|exact HB.out|apply zA|apply zB|apply zC)|exact HB.out)));(case aF=>exact (fun _ _=>trivial));(case aO=>exact (by (with_reducible repeat (first|apply zP|apply zQ|apply zR));exact HO290.out));(case aS=>exact (zJ (by repeat (first|(with_reducible first|exact HB.out|apply zA|apply zB|apply zC)|exact HB.out))));(case aL=>have:=LMc2.out;omega);intro v292 w5 ho hb hg hat;rw [← Ny291.out] at ho;have n0_:=zm (hb);have n1_:=zm (ho);clear HB;clear HO290;have HB:=n0_;have HO293:=n1_;clear n0_ n1_;clear ho hb hg hat))
  go_ret
  exact ⟨_,by first|rfl|(simp [errW_none,errW_some] <;> rfl)|(simp [*,errW_none,errW_some] <;> rfl),by (with_reducible repeat (first|apply zP|apply zQ|apply zR));exact HO293.out,by repeat (first|(with_reducible first|exact HB.out|apply zA|apply zB|apply zC)|exact HB.out)⟩
 ·rw [if_neg c2] at H;exact absurd H (by simp)

end Go.Proofs.Ytpdcghclcgbcfaa.T
