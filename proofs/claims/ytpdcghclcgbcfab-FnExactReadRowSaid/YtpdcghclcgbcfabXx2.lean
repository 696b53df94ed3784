-- written by a program of this session (after the kit's print), not trusted: Lean checks it
import Derived.Test.YtpdcghclcgbcfabVRepsOne
import Derived.Test.YtpdcghclcgbcfabXx0
namespace Go.Proofs.Ytpdcghclcgbcfab.X
open Go.RowKit Go.Proofs.YtpdcghclcgbcfabW.PrintWords Go.Proofs.YtpdcghclcgbcfabW.PrintLast Go.Proofs.YtpdcghclcgbcfabW.PrintMore
open Go.Proofs.YtpdcghclcgbcfabW.PrintWords renaming below_alloc → zA, below_drew1 → zC, below_size → zJ, below_step → zK, gate_dst → zM, pw_below_drewN → zB
open Go.Proofs.YtpdcghclcgbcfabW.PrintWords.Kd renaming R_alloc → zP, R_below → zHb, R_drew → zR, R_drewN → zQ, R_lower → zZ
open Go.Proofs.YtpdcghclcgbcfabW.PrintWords.Aside0 renaming mk → zm
attribute [local go_sem] max2_int min2_int max_two min_two max_three min_three max_four min_four   -- for this text's walks alone
set_option linter.unusedVariables false
set_option linter.unusedSimpArgs false

/-! ### spec_l4words: function 50 -/
def spec_l4words.l0 : Nat→ByteArray→List ByteArray→ByteArray→Int→Option (List ByteArray)
 | 0,_,_,_,_=>none
 | k + 1,x0,x3,x4,x5=>if x5 ≤ (x0.size : Int) then (if x5 = (x0.size : Int) then (if x3.length < 8796093022208 then (spec_l4words.l0 k x0 (x3 ++ [x4]) (⟨#[]⟩ : ByteArray) (wrap64 (x5 + 1))) else (none)) else (if 0 ≤ x5 then (if x5 < (x0.size : Int) then (if (bt x0 x5) = 32 then (if x3.length < 8796093022208 then (spec_l4words.l0 k x0 (x3 ++ [x4]) (⟨#[]⟩ : ByteArray) (wrap64 (x5 + 1))) else (none)) else ((some (([bt x0 x5] : List Int) : List Int)).bind fun y113=>(if x4.size + (strOfNums y113).size ≤ 9223372036854775807 then (spec_l4words.l0 k x0 x3 (x4 ++ (strOfNums y113)) (wrap64 (x5 + 1))) else (none)))) else (none)) else (none))) else (some x3)
def spec_l4words.f (k : Nat) (a0 : ByteArray) : Option (List ByteArray):=spec_l4words.l0 k a0 ([] : List ByteArray) (⟨#[]⟩ : ByteArray) 0
theorem spec_l4words.mono_l : ∀ k,(∀ y0 y1 y2 y3,LeO (spec_l4words.l0 k y0 y1 y2 y3) (spec_l4words.l0 (k + 1) y0 y1 y2 y3))
 | 0=>fun _ _ _ _ r h=>by simp [spec_l4words.l0] at h
 | k + 1=>by
  have ih0:=spec_l4words.mono_l k
  ·intro y0 y1 y2 y3
   unfold spec_l4words.l0
   repeat' first
   | (with_reducible exact ih0 _ _ _ _)
   | (with_reducible exact LeO.refl _)
   | (with_reducible exact LeO.none _)
   | (with_reducible refine LeO.ite ?_ ?_)
   | (with_reducible refine LeO.bind ?_ (fun _=>?_))
   | exact ih0 _ _ _ _
   | exact LeO.none _
   | refine LeO.ite ?_ ?_
   | refine LeO.bind ?_ (fun _=>?_)
theorem spec_l4words.mono : ∀ a0 k,LeO (spec_l4words.f k a0) (spec_l4words.f (k + 1) a0):=by
 intro a0 k
 have ih0:=spec_l4words.mono_l k;unfold spec_l4words.f
 repeat' first
   | (with_reducible exact ih0 _ _ _ _)
   | (with_reducible exact LeO.refl _)
   | (with_reducible exact LeO.none _)
   | (with_reducible refine LeO.ite ?_ ?_)
   | (with_reducible refine LeO.bind ?_ (fun _=>?_))
   | exact ih0 _ _ _ _
   | exact LeO.none _
   | refine LeO.ite ?_ ?_
   | refine LeO.bind ?_ (fun _=>?_)
set_option maxHeartbeats 8000000 in
set_option maxRecDepth 100000 in
theorem spec_l4words.calls (k : Nat) (a0 : ByteArray) (r : List ByteArray) (w : World) (h : spec_l4words.f k a0 = some r) :
  Calls Try.prog 50 #[.string a0] w fun e w'=>∃ v0_ : Value,e = .returned (v0_)∧Kd.R Kd.string 9 w' w.heap.size (fun _=>True) v0_ r∧Below w.heap.size w w':=by
 have HB:=zm (Below.refl w.heap.size w);have H : (spec_l4words.l0 k a0 ([] : List ByteArray) (⟨#[]⟩ : ByteArray) 0) = some r:=h;clear h;have H':=zm H;clear H;go_enter Try.func50,Try.ntmps50
 go_wp2;go_loopg [3,4,5] k (fun kq v3 v4 v5 w'=>∃ (x3_1 : List ByteArray) (x4_1 : ByteArray) (x5_1 : Int),v4 = .string x4_1∧v5 = .int .i64 x5_1∧Aside0 (spec_l4words.l0 kq a0 x3_1 x4_1 x5_1 = some r)∧Aside0 (kq ≤ k)∧Aside0 (Kd.R Kd.string 9 w' w.heap.size (fun _=>True) v3 x3_1)∧Aside0 (Below w.heap.size w w'))
 case atStart=>exact ⟨(([] : List ByteArray)),((⟨#[]⟩ : ByteArray)),(0),(by first|rfl|(simp;done)|(simp [*];done)),(by first|rfl|(simp;done)|(simp [*];done)),H',⟨Nat.le_refl _⟩,⟨by first|exact Kd.R_nil _ _ _ _ _|exact Kd.N_nil _ _ _ _ _|exact Kd.V_nil _ _ _ _ _|exact Kd.Q_nil _ _ _ _ _|exact Kd.S_nil _ _ _ _ _⟩,⟨by repeat (first|(with_reducible first|exact HB.out|apply zA|apply zB|apply zC)|exact HB.out)⟩⟩
 case round =>
  clear H';obtain ⟨x3_1,x4_1,x5_1,rfl,rfl,HA,HK1,HO_3,HB⟩:=hrel;cases gk with
  | zero=>exact absurd HA.out (by simp [spec_l4words.l0])
  | succ k1 =>
   have H:=HA.out;clear HA;simp only [spec_l4words.l0] at H
   by_cases c2 : x5_1 ≤ (a0.size : Int)
   ·rw [if_pos c2] at H;have c2b0 : decide (x5_1 ≤ (a0.size : Int)) = true:=decide_eq_true c2;clear c2;by_cases c3 : x5_1 = (a0.size : Int)
    ·rw [if_pos c3] at H;have c3b0 : (x5_1 == (a0.size : Int)) = true:=beq_iff_eq.mpr c3;have c3b1 : (x5_1 != (a0.size : Int)) = false:=bne_eq_false_iff_eq.mpr c3;clear c3;by_cases c4 : x3_1.length < 8796093022208
     ·rw [if_pos c4] at H;have LMc4:=zm c4;clear c4;obtain ⟨y107,hy107⟩ : ∃ y_ : List ByteArray,y_ = (x3_1 ++ [x4_1]):=⟨_,rfl⟩;replace H : (spec_l4words.l0 k1 a0 y107 (⟨#[]⟩ : ByteArray) (wrap64 (x5_1 + 1))) = some r:=by first|(rw [hy107];with_reducible exact H)|(have H2_:=(Option.bind_some _ _).symm.trans H;rw [hy107];with_reducible exact H2_)|(have H2_:=(Option.bind_some _ _).symm.trans H;with_reducible exact H2_)|with_reducible exact H|(rw [hy107];exact H)|exact H
      have Ny107:=zm hy107;clear hy107;have H':=zm H;clear H;go_wp2_with (first|((with_reducible refine gate_builtin (b:=.append) (xs:=#[.tmp 22,.tmp 24]) rfl ?_);at_builtin;refine Kd.R_append Kd.string (w0:=w) w.heap.size rfl (.tmp 22) (.tmp 24) 71 9 (.string ⟨#[]⟩) 16 rfl Try.underlying71 info9 rfl (by decide) (by omega) u3 x3_1 x4_1 [.string x4_1] (fun _=>True) (fun _=>False) rfl rfl ?aP (fun _ hk=>hk.elim) ?aF ?aO ?aB ?aS ?aL ?_;(case aP=>exact rfl);(case aB=>exact (by repeat (first|(with_reducible first|exact HB.out|apply zA|apply zB|apply zC)|exact HB.out)));(case aF=>exact (fun _ _=>trivial));(case aO=>exact (by (with_reducible repeat (first|apply zP|apply zQ|apply zR));exact HO_3.out));(case aS=>exact (zJ (by repeat (first|(with_reducible first|exact HB.out|apply zA|apply zB|apply zC)|exact HB.out))));(case aL=>have:=LMc4.out;omega);intro v108 w5 ho hb hg hat;rw [← Ny107.out] at ho;have n0_:=zm (hb);have n1_:=zm (ho);clear HB;clear HO_3;have HB:=n0_;have HO109:=n1_;clear n0_ n1_;clear ho hb hg hat))
      go_roundg k1
      case measure=>have:=HK1.out;omega
      case rel=>exact ⟨(y107),((⟨#[]⟩ : ByteArray)),(wrap64 (x5_1 + 1)),(by first|rfl|(simp;done)|(simp [*];done)),(by first|rfl|(simp;done)|(simp [*];done)),H',⟨by have:=HK1.out;omega⟩,⟨by (with_reducible repeat (first|apply zP|apply zQ|apply zR));exact HO109.out⟩,⟨by repeat (first|(with_reducible first|exact HB.out|apply zA|apply zB|apply zC)|exact HB.out)⟩⟩
     ·rw [if_neg c4] at H;exact absurd H (by simp)
    ·rw [if_neg c3] at H;have c3b0 : (x5_1 == (a0.size : Int)) = false:=beq_eq_false_iff_ne.mpr c3;have c3b1 : (x5_1 != (a0.size : Int)) = true:=bne_iff_ne.mpr c3;by_cases c6 : 0 ≤ x5_1
     ·rw [if_pos c6] at H;have c6b0 : decide (0 ≤ x5_1) = true:=decide_eq_true c6;clear c6;by_cases c7 : x5_1 < (a0.size : Int)
      ·rw [if_pos c7] at H;have c7b0 : decide (x5_1 < (a0.size : Int)) = true:=decide_eq_true c7;clear c7;by_cases c9 : (bt a0 x5_1) = 32
       ·rw [if_pos c9] at H;have c9b0 : ((bt a0 x5_1) == 32) = true:=beq_iff_eq.mpr c9;have c9b1 : ((bt a0 x5_1) != 32) = false:=bne_eq_false_iff_eq.mpr c9;clear c9;by_cases c10 : x3_1.length < 8796093022208
        ·rw [if_pos c10] at H;have LMc10:=zm c10;clear c10;obtain ⟨y110,hy110⟩ : ∃ y_ : List ByteArray,y_ = (x3_1 ++ [x4_1]):=⟨_,rfl⟩;replace H : (spec_l4words.l0 k1 a0 y110 (⟨#[]⟩ : ByteArray) (wrap64 (x5_1 + 1))) = some r:=by first|(rw [hy110];with_reducible exact H)|(have H2_:=(Option.bind_some _ _).symm.trans H;rw [hy110];with_reducible exact H2_)|(have H2_:=(Option.bind_some _ _).symm.trans H;with_reducible exact H2_)|with_reducible exact H|(rw [hy110];exact H)|exact H
         have Ny110:=zm hy110;clear hy110;have H':=zm H;clear H;have p8 : 0 ≤ (x5_1 : Int):=of_decide_eq_true (by first|(with_reducible assumption)|assumption)
         have q8 : x5_1 < (a0.size : Int):=of_decide_eq_true (by first|(with_reducible assumption)|assumption)
         have hx8:=bt_at a0 x5_1;replace p8:=eq_true p8;replace q8:=eq_true q8;go_wp2_with (first|((with_reducible refine gate_builtin (b:=.append) (xs:=#[.tmp 22,.tmp 24]) rfl ?_);at_builtin;refine Kd.R_append Kd.string (w0:=w) w.heap.size rfl (.tmp 22) (.tmp 24) 71 9 (.string ⟨#[]⟩) 16 rfl Try.underlying71 info9 rfl (by decide) (by omega) u3 x3_1 x4_1 [.string x4_1] (fun _=>True) (fun _=>False) rfl rfl ?aP (fun _ hk=>hk.elim) ?aF ?aO ?aB ?aS ?aL ?_;(case aP=>exact rfl);(case aB=>exact (by repeat (first|(with_reducible first|exact HB.out|apply zA|apply zB|apply zC)|exact HB.out)));(case aF=>exact (fun _ _=>trivial));(case aO=>exact (by (with_reducible repeat (first|apply zP|apply zQ|apply zR));exact HO_3.out));(case aS=>exact (zJ (by repeat (first|(with_reducible first|exact HB.out|apply zA|apply zB|apply zC)|exact HB.out))));(case aL=>have:=LMc10.out;omega);intro v111 w11 ho hb hg hat;rw [← Ny110.out] at ho;have n0_:=zm (hb);have n1_:=zm (ho);clear HB;clear HO_3;have HB:=n0_;have HO112:=n1_;clear n0_ n1_;clear ho hb hg hat))
         go_roundg k1
         case measure=>have:=HK1.out;omega
         case rel=>exact ⟨(y110),((⟨#[]⟩ : ByteArray)),(wrap64 (x5_1 + 1)),(by first|rfl|(simp;done)|(simp [*];done)),(by first|rfl|(simp;done)|(simp [*];done)),H',⟨by have:=HK1.out;omega⟩,⟨by (with_reducible repeat (first|apply zP|apply zQ|apply zR));exact HO112.out⟩,⟨by repeat (first|(with_reducible first|exact HB.out|apply zA|apply zB|apply zC)|exact HB.out)⟩⟩
        ·rw [if_neg c10] at H;exact absurd H (by simp)
       ·rw [if_neg c9] at H;have c9b0 : ((bt a0 x5_1) == 32) = false:=beq_eq_false_iff_ne.mpr c9;have c9b1 : ((bt a0 x5_1) != 32) = true:=bne_iff_ne.mpr c9;obtain ⟨y113,hy113⟩ : ∃ y_ : List Int,y_ = (([bt a0 x5_1] : List Int)):=⟨_,rfl⟩;replace H : (if x4_1.size + (strOfNums y113).size ≤ 9223372036854775807 then (spec_l4words.l0 k1 a0 x3_1 (x4_1 ++ (strOfNums y113)) (wrap64 (x5_1 + 1))) else (none)) = some r:=by first|(rw [hy113];with_reducible exact H)|(have H2_:=(Option.bind_some _ _).symm.trans H;rw [hy113];with_reducible exact H2_)|(have H2_:=(Option.bind_some _ _).symm.trans H;with_reducible exact H2_)|with_reducible exact H|(rw [hy113];exact H)|exact H
        have Ny113:=zm hy113;clear hy113;by_cases c13 : x4_1.size + (strOfNums y113).size ≤ 9223372036854775807
        ·rw [if_pos c13] at H;have c13b0:=eq_true c13;have c13b1 : decide (x4_1.size + (strOfNums y113).size ≤ 9223372036854775807) = true:=decide_eq_true c13;try have c13b2 : (9223372036854775807 < x4_1.size + (strOfNums y113).size) = False:=eq_false (Nat.not_lt.2 c13)
         have H':=zm H;clear H;have p8 : 0 ≤ (x5_1 : Int):=of_decide_eq_true (by first|(with_reducible assumption)|assumption)
         have q8 : x5_1 < (a0.size : Int):=of_decide_eq_true (by first|(with_reducible assumption)|assumption)
         have hx8:=bt_at a0 x5_1;replace p8:=eq_true p8;replace q8:=eq_true q8;have p12 : 0 ≤ (x5_1 : Int):=of_decide_eq_true (by first|(with_reducible assumption)|assumption)
         have q12 : x5_1 < (a0.size : Int):=of_decide_eq_true (by first|(with_reducible assumption)|assumption)
         have hx12:=bt_at a0 x5_1;replace p12:=eq_true p12;replace q12:=eq_true q12;go_wp2_with (first|((with_reducible refine zM (N:=30) rfl ?_);refine Kd.R_lit (Kd.int .u8) _ 5 ?hg (N:=30) ?hd (xs:=([bt a0 x5_1] : List Int)) (inner:=[.int .u8 (bt a0 x5_1)]) (ok:=fun _=>True) (okp:=fun _=>True) ?hr ?hp (fun _ hk=>hk) trivial (Below.refl _ _) (Nat.le_refl _) (by simp) ?_;(case hd=>rfl);(case hg=>rfl);(case hr=>first|(go_simp;done)|(go_simp;rfl));(case hp=>exact (Reps.one (show Kd.M (Kd.int .u8) _ _ _ (bt a0 x5_1) [.int .u8 (bt a0 x5_1)] from rfl) (Reps.none _ _)));intro v114 w14 ho15 hb hg_ hnew_;clear hg_ hnew_;(first|rw [← Ny113.out] at ho15|(simp only [Int.reduceToNat] at ho15;rw [← Ny113.out] at ho15));have n0_:=zm (zHb (by (with_reducible repeat (first|apply zP|apply zQ|apply zR));exact HO_3.out) hb);have n1_:=zm (zZ ho15 (zJ (by repeat (first|(with_reducible first|exact HB.out|apply zA|apply zB|apply zC)|exact HB.out))));have n2_:=zm (zK (by repeat (first|(with_reducible first|exact HB.out|apply zA|apply zB|apply zC)|exact HB.out)) hb);clear HO_3;clear HB;have HO_3:=n0_;have HO115:=n1_;have HB:=n2_;clear n0_ n1_ n2_;clear hb ho15;have hcv16:=own_string (P:=Try.prog) Try.underlying80 Try.underlying5 Try.underlying9 (Kd.own_of_R HO115.out)))
         go_roundg k1
         case measure=>have:=HK1.out;omega
         case rel=>exact ⟨(x3_1),(x4_1 ++ (strOfNums y113)),(wrap64 (x5_1 + 1)),(by first|rfl|(simp;done)|(simp [*];done)),(by first|rfl|(simp;done)|(simp [*];done)),H',⟨by have:=HK1.out;omega⟩,⟨by (with_reducible repeat (first|apply zP|apply zQ|apply zR));exact HO_3.out⟩,⟨by repeat (first|(with_reducible first|exact HB.out|apply zA|apply zB|apply zC)|exact HB.out)⟩⟩
        ·rw [if_neg c13] at H;exact absurd H (by simp)
      ·rw [if_neg c7] at H;exact absurd H (by simp)
     ·rw [if_neg c6] at H;exact absurd H (by simp)
   ·rw [if_neg c2] at H;have c2b0 : decide (x5_1 ≤ (a0.size : Int)) = false:=decide_eq_false c2;clear c2;obtain rfl:=Option.some.inj H;go_wp2;go_ret
    exact ⟨_,by first|rfl|(simp [errW_none,errW_some] <;> rfl)|(simp [*,errW_none,errW_some] <;> rfl),by (with_reducible repeat (first|apply zP|apply zQ|apply zR));exact HO_3.out,by repeat (first|(with_reducible first|exact HB.out|apply zA|apply zB|apply zC)|exact HB.out)⟩

end Go.Proofs.Ytpdcghclcgbcfab.X
