-- written by a program of this session (after the kit's print), not trusted: Lean checks it
import Derived.Test.YtpdcghclcgbcfabVFour
import Derived.Test.YtpdcghclcgbcfabVRepsOne
import Derived.Test.YtpdcghclcgbcfabXx0
import Derived.Test.YtpdcghclcgbcfabXx2
import Derived.Test.YtpdcghclcgbcfabXx3
import Derived.Test.YtpdcghclcgbcfabXx5
import Derived.Test.YtpdcghclcgbcfabXx6a
namespace Go.Proofs.Ytpdcghclcgbcfab.X
open Go.RowKit Go.Proofs.YtpdcghclcgbcfabW.PrintWords Go.Proofs.YtpdcghclcgbcfabW.PrintLast Go.Proofs.YtpdcghclcgbcfabW.PrintMore
open Go.Proofs.YtpdcghclcgbcfabW.PrintWords renaming add_block → zO, below_alloc → zA, below_drew1 → zC, below_set → zF, below_size → zJ, below_step → zK, blk_alloc → zG, blk_below → zL, blk_cell → zD, blk_drew → zI, blk_drewN → zH, blk_frozen → zE, box_event → zN, gate_dst → zM, pw_below_drewN → zB, pw_cell_below → z3
open Go.Proofs.YtpdcghclcgbcfabW.PrintWords.Kd renaming C_alloc → zT, C_drew → zV, C_drewN → zU, N_alloc → zJb, N_drew → zLb, N_drewN → zKb, R_alloc → zP, R_base → zCb, R_below → zHb, R_drew → zR, R_drewN → zQ, R_elder' → zGb, R_far → zX, R_lower → zZ, R_mono → zS, R_reads' → zW, R_slice → zAb, R_types → zBb
open Go.Proofs.YtpdcghclcgbcfabW.PrintWords.Aside0 renaming mk → zm
open Bool renaming true → y', false → n'
open List renaming setIfInBounds_toArray → u0, set_cons_zero → u1, set_cons_succ → u2
attribute [local go_sem] max2_int min2_int max_two min_two max_three min_three max_four min_four   -- for this text's walks alone
set_option linter.unusedVariables false
set_option linter.unusedSimpArgs false

abbrev o4 : Obj:=.cells #[.slice none 0 0,.slice none 0 0,.slice none 0 0,.slice none 0 0] 30 (0,0)
set_option maxHeartbeats 8000000 in
set_option maxRecDepth 100000 in
theorem spec_l4signal.calls (k : Nat) (a0 : ByteArray) (r1 : List Int) (r2 : List Int) (r3 : List Bool) (r4 : List (List Bool)) (r5 : Bool) (w : World) (h : spec_l4signal.f k a0 = some (r1,r2,r3,r4,r5)) :
  Calls Try.prog 42 #[.string a0] w fun e w'=>∃ v0_ v1_ v2_ v3_ : Value,e = .returned (.tuple #[.agg #[v0_,v1_,v2_,v3_],.bool r5])∧Kd.R (Kd.int .i64) 3 w' w.heap.size (fun k_=>(w.heap.size ≤ k_)∧some k_ ≠ (v1_ : Value).ownBlock) v0_ r1∧Kd.R (Kd.int .i64) 3 w' w.heap.size (fun k_=>(w.heap.size ≤ k_)∧some k_ ≠ (v0_ : Value).ownBlock) v1_ r2∧Kd.R Kd.bool 4 w' w.heap.size (fun k_=>(w.heap.size ≤ k_)) v2_ r3∧Kd.N (Kd.slice 4 Kd.bool) 23 w' w.heap.size (fun k_=>(w.heap.size ≤ k_)∧some k_ ≠ (v0_ : Value).ownBlock∧some k_ ≠ (v1_ : Value).ownBlock∧some k_ ≠ (v2_ : Value).ownBlock) v3_ r4∧Below w.heap.size w w':=by
 have hu30:=Try.underlying30;have HB:=zm (Below.refl w.heap.size w);have H : ((spec_l4words.f k a0).bind fun t132=>(if (t132.length : Int) < 6 then (spec_l4signal.j0 k a0 t132 true) else (if 2 < (t132.length : Int) then (spec_l4signal.j0 k a0 t132 (((rdOf ByteArray.empty t132 2).size : Int) != 4)) else (none)))) = some (r1,r2,r3,r4,r5):=h
 clear h;replace H:=Option.bind_eq_some_iff.mp H;obtain ⟨t132,A20,H⟩:=H;replace H : (if (t132.length : Int) < 6 then (spec_l4signal.j0 k a0 t132 true) else (if 2 < (t132.length : Int) then (spec_l4signal.j0 k a0 t132 (((rdOf ByteArray.empty t132 2).size : Int) != 4)) else (none))) = some (r1,r2,r3,r4,r5):=H;have A2:=zm A20;clear A20;have HC3:=zm H;clear H;go_enter Try.func42,Try.ntmps42
 go_upto_region 2 with (first|((with_reducible refine zM (N:=2) rfl ?_);(try (refine gate_guard (by rfl) ?_;dsimp only));refine zN ?hg (N:=2) ?hd (cs:=#[.slice none 0 0,.slice none 0 0,.slice none 0 0,.slice none 0 0]) (t:=30) ?hr ?_;(case hd=>rfl);(case hg=>rfl);(case hr=>first|(go_simp;done)|(go_simp;rfl));intro gb131 hg w4 hbox hb;have n0_:=zm (zK (by with_reducible repeat first|exact HB.out|apply zA|apply zB|apply zC) hb);have n1_:=zm (hbox);have n2_:=zm ((by rw [hg];exact (zJ (by with_reducible repeat first|exact HB.out|apply zA|apply zB|apply zC)) : w.heap.size ≤ gb131));have n3_:=zm ((by rw [hg];exact (zJ (by with_reducible repeat first|exact HB.out|apply zA|apply zB|apply zC)) : w.heap.size ≤ gb131));clear HB;have HB:=n0_;have BK131:=n1_;have GW131:=n2_;have GE131:=n3_;clear n0_ n1_ n2_ n3_;clear hb hbox hg)|((with_reducible refine gate_callee (f:=50) rfl ?_);refine goesL_ (some 9) rfl rfl Try.func50 (by kernel_rfl) rfl #[.string a0] rfl (by (try simp only [List.map_toArray,List.map_cons,List.map_nil]);first|done|rfl|(simp only [List.length_drop,List.length_take];rfl)) ?_;(with_reducible refine (spec_l4words.calls k a0 t132 _ A2.out).mono ?_);rintro e w5 ⟨v133,rfl,ho0,hb⟩;refine ⟨_,rfl,?_⟩;have HO134:=zm (zZ (Kd.R_newM (M:=fun k_=>(w.heap.size ≤ k_)) ho0 (zJ (by with_reducible repeat first|exact HB.out|apply zA|apply zB|apply zC)) (fun k_ h_=>h_)) (zJ (by with_reducible repeat first|exact HB.out|apply zA|apply zB|apply zC)));replace BK131:=zm (zL (by exact BK131.out) hb);replace HB:=zm (zK (by with_reducible repeat first|exact HB.out|apply zA|apply zB|apply zC) hb);(try clear hb);(try clear hb2);(try clear hk);(try clear hi);(try clear ho0)))
 (try simp only [Act.put,u0,u1,u2]);go_cut [19] (fun v19 wc=>∃ (kq : Nat) (x19_2 : Bool),v19 = .bool x19_2∧Aside0 (spec_l4signal.j0 kq a0 t132 x19_2 = some (r1,r2,r3,r4,r5))∧Aside0 (kq ≤ k)∧Aside0 (Kd.R Kd.string 9 wc w.heap.size (fun k_=>(w.heap.size ≤ k_)) v133 t132)∧Aside0 (wc.heap[gb131]? = some (.cells #[(.slice none 0 0),(.slice none 0 0),(.slice none 0 0),(.slice none 0 0)] 30 (0,0)))∧Aside0 (Below w.heap.size w wc))
 case first =>
  have H:=HC3.out;clear HC3;by_cases c6 : (t132.length : Int) < 6
  ·rw [if_pos c6] at H;have c6b0 : decide ((t132.length : Int) < 6) = true:=decide_eq_true c6;have c6b1 : decide (t132.length < 6) = true:=decide_eq_true (by omega)
   clear c6;(first|rw [c6b0]|(simp only [i64_w,i32_w];rw [c6b0])|skip)
   have H':=zm H;clear H;obtain ⟨Ao7,co7,eo7⟩:=zAb HO134.out;subst eo7
   go_wp2;go_meet
   case rel=>exact ⟨_,(true),(by first|rfl|(simp;done)|(simp [*];done)),H',⟨by first|omega|exact Nat.le_refl _⟩,⟨by exact zS HO134.out (fun _ hk=>hk.1)⟩,⟨by exact BK131.out⟩,⟨by repeat (first|(with_reducible first|exact HB.out|apply zA|apply zB|apply zC|refine zF ?_ GE131.out)|exact HB.out)⟩⟩
  ·rw [if_neg c6] at H;have c6b0 : decide ((t132.length : Int) < 6) = false:=decide_eq_false c6;have c6b1 : decide (t132.length < 6) = false:=decide_eq_false (by omega)
   clear c6;(first|rw [c6b0]|(simp only [i64_w,i32_w];rw [c6b0])|skip)
   by_cases c8 : 2 < (t132.length : Int)
   ·rw [if_pos c8] at H;have c8b0 : decide (2 < (t132.length : Int)) = true:=decide_eq_true c8;have c8b1 : decide (2 < t132.length) = true:=decide_eq_true (by omega)
    clear c8;have H':=zm H;clear H;obtain ⟨Ao9,co9,eo9⟩:=zAb HO134.out;subst eo9
    have p135 : 0 ≤ (2 : Int):=(by omega)
    have q135 : 2 < (t132.length : Int):=of_decide_eq_true (by first|(with_reducible assumption)|assumption)
    obtain ⟨ad135,e135,hx135_0⟩:=Kd.at_string (zW HO134.out).2.2 2 p135 q135;cases e135;(try simp only [show (2 : Int).toNat = 2 from rfl,Nat.reduceMul,Nat.reduceEqDiff,Go.Addr.add,↓reduceIte] at hx135_0)
    have qi135 : (2 < t132.length) = True:=eq_true (by omega)
    (try rw [show ((2 : Int)).toNat = 2 from rfl] at hx135_0)
    replace p135:=eq_true p135;replace q135:=eq_true q135;go_wp2;go_meet
    case rel=>exact ⟨_,((((rdOf ByteArray.empty t132 2).size : Int) != 4)),(by first|rfl|(simp;done)|(simp [*];done)),H',⟨by first|omega|exact Nat.le_refl _⟩,⟨by exact zS HO134.out (fun _ hk=>hk.1)⟩,⟨by exact BK131.out⟩,⟨by repeat (first|(with_reducible first|exact HB.out|apply zA|apply zB|apply zC|refine zF ?_ GE131.out)|exact HB.out)⟩⟩
   ·rw [if_neg c8] at H;exact absurd H (by simp)
 case rest =>
  clear HC3;(try clear p1);(try clear q1);(try clear hx1);(try clear qi1);(try clear p2);(try clear c4);(try clear c5);(try clear c6);(try clear c6b0);(try clear c6b1);(try clear c8);(try clear c8b0);(try clear c8b1);(try clear hx135_0);(try clear p135);(try clear q135);obtain ⟨kq,x19_2,rfl,HA,HJ2,HO_4,BK131,HB⟩:=hcut;cases kq with
  | zero=>exact absurd HA.out (by simp [spec_l4signal.j0])
  | succ kj2 =>
   have H:=HA.out;clear HA;simp only [spec_l4signal.j0] at H
   by_cases c10 : x19_2 = true
   ·subst c10
    have H1 : (some (([] : List Int),([] : List Int),([] : List Bool),([] : List (List Bool)),false)) = some (r1,r2,r3,r4,r5):=by rw [if_pos rfl] at H;exact H
    clear H;have H:=H1;clear H1;simp only [Option.some.injEq,Prod.mk.injEq] at H
    obtain ⟨rfl,rfl,rfl,rfl,rfl⟩:=H;have hcz11_0 : wc.cell? ⟨gb131,0,none⟩ = some (.slice none 0 0):=(zD BK131.out 0).trans rfl;have hcz11_1 : wc.cell? ⟨gb131,1,none⟩ = some (.slice none 0 0):=(zD BK131.out 1).trans rfl;have hcz11_2 : wc.cell? ⟨gb131,2,none⟩ = some (.slice none 0 0):=(zD BK131.out 2).trans rfl;have hcz11_3 : wc.cell? ⟨gb131,3,none⟩ = some (.slice none 0 0):=(zD BK131.out 3).trans rfl;have hfz11_0:=zE BK131.out 0;have hfz11_1:=zE BK131.out 1;have hfz11_2:=zE BK131.out 2;have hfz11_3:=zE BK131.out 3;go_wp2;refine bodyPost_ret (results_ct rfl _ _ gb131 30 #[.slice none 0 0,.slice none 0 0,.slice none 0 0,.slice none 0 0] (0,0) _ rfl (by (with_reducible repeat (first|refine zH ?_ _|refine zI ?_|refine zG ?_ _));refine blk_put (cs:=#[.slice none 0 0,.slice none 0 0,.slice none 0 0,.slice none 0 0]) ?_ 3 _ rfl;(with_reducible repeat (first|refine zH ?_ _|refine zI ?_|refine zG ?_ _));refine blk_put (cs:=#[.slice none 0 0,.slice none 0 0,.slice none 0 0,.slice none 0 0]) ?_ 2 _ rfl;(with_reducible repeat (first|refine zH ?_ _|refine zI ?_|refine zG ?_ _));refine blk_put (cs:=#[.slice none 0 0,.slice none 0 0,.slice none 0 0,.slice none 0 0]) ?_ 1 _ rfl;(with_reducible repeat (first|refine zH ?_ _|refine zI ?_|refine zG ?_ _));refine blk_put (cs:=#[.slice none 0 0,.slice none 0 0,.slice none 0 0,.slice none 0 0]) ?_ 0 _ rfl;exact BK131.out) Try.underlying30 rfl (by kernel_rfl)) rfl ?_
    exact ⟨_,_,_,_,by first|rfl|(simp [errW_none,errW_some] <;> rfl)|(simp [*,errW_none,errW_some] <;> rfl),by first|exact Kd.R_nil _ _ _ _ _|exact Kd.N_nil _ _ _ _ _|exact Kd.V_nil _ _ _ _ _|exact Kd.Q_nil _ _ _ _ _|exact Kd.S_nil _ _ _ _ _,by first|exact Kd.R_nil _ _ _ _ _|exact Kd.N_nil _ _ _ _ _|exact Kd.V_nil _ _ _ _ _|exact Kd.Q_nil _ _ _ _ _|exact Kd.S_nil _ _ _ _ _,by first|exact Kd.R_nil _ _ _ _ _|exact Kd.N_nil _ _ _ _ _|exact Kd.V_nil _ _ _ _ _|exact Kd.Q_nil _ _ _ _ _|exact Kd.S_nil _ _ _ _ _,by first|exact Kd.S_nil _ _ _ _ _|exact Kd.N_nil _ _ _ _ _|exact Kd.V_nil _ _ _ _ _|exact Kd.Q_nil _ _ _ _ _|exact Kd.R_nil _ _ _ _ _,by repeat (first|(with_reducible first|exact HB.out|apply zA|apply zB|apply zC|refine zF ?_ GE131.out)|exact HB.out)⟩
   ·replace c10:=Bool.eq_false_iff.mpr c10;subst c10
    have H1 : ((some (([(-1)] : List Int) : List Int)).bind fun y136=>(if 0 ≤ (wrap64 ((t132.length : Int) - 1)) then (if (wrap64 ((t132.length : Int) - 1)) < (t132.length : Int) then ((spec_l4num.f kj2 (rdOf ByteArray.empty t132 (wrap64 ((t132.length : Int) - 1)))).bind fun t140=>((some (([t140] : List Int) : List Int)).bind fun y141=>(if 0 < (t132.length : Int) then ((some (([((rdOf ByteArray.empty t132 0).toList == ([111,112,101,110] : List UInt8))] : List Bool) : List Bool)).bind fun y145=>(if (t132.length : Int) = 7 then (if 4 < (t132.length : Int) then ((spec_l4num.f kj2 (rdOf ByteArray.empty t132 4)).bind fun t150=>(if 0 < (y136.length : Int) then (if t150 < 0 then (some (([] : List Int),([] : List Int),([] : List Bool),([] : List (List Bool)),false)) else (spec_l4signal.j1 kj2 a0 t132 (y136.set (0 : Int).toNat t150) y141 y145)) else (none))) else (none)) else (spec_l4signal.j1 kj2 a0 t132 y136 y141 y145))) else (none)))) else (none)) else (none))) = some (r1,r2,r3,r4,r5):=by rw [if_neg (show ¬ (false = true) by decide)] at H;exact H
    clear H;have H:=H1;clear H1;obtain ⟨y136,hy136⟩ : ∃ y_ : List Int,y_ = (([(-1)] : List Int)):=⟨_,rfl⟩;replace H : (if 0 ≤ (wrap64 ((t132.length : Int) - 1)) then (if (wrap64 ((t132.length : Int) - 1)) < (t132.length : Int) then ((spec_l4num.f kj2 (rdOf ByteArray.empty t132 (wrap64 ((t132.length : Int) - 1)))).bind fun t140=>((some (([t140] : List Int) : List Int)).bind fun y141=>(if 0 < (t132.length : Int) then ((some (([((rdOf ByteArray.empty t132 0).toList == ([111,112,101,110] : List UInt8))] : List Bool) : List Bool)).bind fun y145=>(if (t132.length : Int) = 7 then (if 4 < (t132.length : Int) then ((spec_l4num.f kj2 (rdOf ByteArray.empty t132 4)).bind fun t150=>(if 0 < (y136.length : Int) then (if t150 < 0 then (some (([] : List Int),([] : List Int),([] : List Bool),([] : List (List Bool)),false)) else (spec_l4signal.j1 kj2 a0 t132 (y136.set (0 : Int).toNat t150) y141 y145)) else (none))) else (none)) else (spec_l4signal.j1 kj2 a0 t132 y136 y141 y145))) else (none)))) else (none)) else (none)) = some (r1,r2,r3,r4,r5):=by first|(rw [hy136];with_reducible exact H)|(have H2_:=(Option.bind_some _ _).symm.trans H;rw [hy136];with_reducible exact H2_)|(have H2_:=(Option.bind_some _ _).symm.trans H;with_reducible exact H2_)|with_reducible exact H|(rw [hy136];exact H)|exact H
    have Ny136:=zm hy136;clear hy136;obtain ⟨ji12,hji12⟩ : ∃ j_ : Int,(wrap64 ((t132.length : Int) - 1)) = j_:=⟨_,rfl⟩;replace H : (if 0 ≤ (ji12) then (if (ji12) < (t132.length : Int) then ((spec_l4num.f kj2 (rdOf ByteArray.empty t132 (ji12))).bind fun t140=>((some (([t140] : List Int) : List Int)).bind fun y141=>(if 0 < (t132.length : Int) then ((some (([((rdOf ByteArray.empty t132 0).toList == ([111,112,101,110] : List UInt8))] : List Bool) : List Bool)).bind fun y145=>(if (t132.length : Int) = 7 then (if 4 < (t132.length : Int) then ((spec_l4num.f kj2 (rdOf ByteArray.empty t132 4)).bind fun t150=>(if 0 < (y136.length : Int) then (if t150 < 0 then (some (([] : List Int),([] : List Int),([] : List Bool),([] : List (List Bool)),false)) else (spec_l4signal.j1 kj2 a0 t132 (y136.set (0 : Int).toNat t150) y141 y145)) else (none))) else (none)) else (spec_l4signal.j1 kj2 a0 t132 y136 y141 y145))) else (none)))) else (none)) else (none)) = some (r1,r2,r3,r4,r5):=by first|(rw [hji12] at H;exact H)|(simp only [hji12] at H ⊢;exact H)
    have hji12w : (IntKind.i64.wrap ((t132.length : Int) - 1)) = ji12:=(i64_w _).trans hji12;by_cases c13 : 0 ≤ (ji12)
    ·rw [if_pos c13] at H;have c13b0 : decide (0 ≤ (ji12)) = true:=decide_eq_true c13;clear c13;by_cases c14 : (ji12) < (t132.length : Int)
     ·rw [if_pos c14] at H;have c14b0 : decide ((ji12) < (t132.length : Int)) = true:=decide_eq_true c14;clear c14;replace H:=Option.bind_eq_some_iff.mp H;obtain ⟨t140,A150,H⟩:=H;replace H : ((some (([t140] : List Int) : List Int)).bind fun y141=>(if 0 < (t132.length : Int) then ((some (([((rdOf ByteArray.empty t132 0).toList == ([111,112,101,110] : List UInt8))] : List Bool) : List Bool)).bind fun y145=>(if (t132.length : Int) = 7 then (if 4 < (t132.length : Int) then ((spec_l4num.f kj2 (rdOf ByteArray.empty t132 4)).bind fun t150=>(if 0 < (y136.length : Int) then (if t150 < 0 then (some (([] : List Int),([] : List Int),([] : List Bool),([] : List (List Bool)),false)) else (spec_l4signal.j1 kj2 a0 t132 (y136.set (0 : Int).toNat t150) y141 y145)) else (none))) else (none)) else (spec_l4signal.j1 kj2 a0 t132 y136 y141 y145))) else (none))) = some (r1,r2,r3,r4,r5):=H
      have A15:=zm A150;clear A150;obtain ⟨y141,hy141⟩ : ∃ y_ : List Int,y_ = (([t140] : List Int)):=⟨_,rfl⟩;replace H : (if 0 < (t132.length : Int) then ((some (([((rdOf ByteArray.empty t132 0).toList == ([111,112,101,110] : List UInt8))] : List Bool) : List Bool)).bind fun y145=>(if (t132.length : Int) = 7 then (if 4 < (t132.length : Int) then ((spec_l4num.f kj2 (rdOf ByteArray.empty t132 4)).bind fun t150=>(if 0 < (y136.length : Int) then (if t150 < 0 then (some (([] : List Int),([] : List Int),([] : List Bool),([] : List (List Bool)),false)) else (spec_l4signal.j1 kj2 a0 t132 (y136.set (0 : Int).toNat t150) y141 y145)) else (none))) else (none)) else (spec_l4signal.j1 kj2 a0 t132 y136 y141 y145))) else (none)) = some (r1,r2,r3,r4,r5):=by first|(rw [hy141];with_reducible exact H)|(have H2_:=(Option.bind_some _ _).symm.trans H;rw [hy141];with_reducible exact H2_)|(have H2_:=(Option.bind_some _ _).symm.trans H;with_reducible exact H2_)|with_reducible exact H|(rw [hy141];exact H)|exact H
      have Ny141:=zm hy141;clear hy141;by_cases c16 : 0 < (t132.length : Int)
      ·rw [if_pos c16] at H;have c16b0 : decide (0 < (t132.length : Int)) = true:=decide_eq_true c16;have c16b1 : decide (0 < t132.length) = true:=decide_eq_true (by omega)
       clear c16;obtain ⟨y145,hy145⟩ : ∃ y_ : List Bool,y_ = (([((rdOf ByteArray.empty t132 0).toList == ([111,112,101,110] : List UInt8))] : List Bool)):=⟨_,rfl⟩;replace H : (if (t132.length : Int) = 7 then (if 4 < (t132.length : Int) then ((spec_l4num.f kj2 (rdOf ByteArray.empty t132 4)).bind fun t150=>(if 0 < (y136.length : Int) then (if t150 < 0 then (some (([] : List Int),([] : List Int),([] : List Bool),([] : List (List Bool)),false)) else (spec_l4signal.j1 kj2 a0 t132 (y136.set (0 : Int).toNat t150) y141 y145)) else (none))) else (none)) else (spec_l4signal.j1 kj2 a0 t132 y136 y141 y145)) = some (r1,r2,r3,r4,r5):=by first|(rw [hy145];with_reducible exact H)|(have H2_:=(Option.bind_some _ _).symm.trans H;rw [hy145];with_reducible exact H2_)|(have H2_:=(Option.bind_some _ _).symm.trans H;with_reducible exact H2_)|with_reducible exact H|(rw [hy145];exact H)|exact H
       have Ny145:=zm hy145;clear hy145;have HC17:=zm H;clear H;try go_wp2
       replace HO_4:=zm (zR HO_4.out);replace BK131:=zm (zI BK131.out);replace HB:=zm (zC HB.out);obtain ⟨Ao19,co19,eo19⟩:=zAb HO_4.out;(first|subst eo19|(injection eo19 with f1_ f2_ f3_;have f4_:=f1_.symm;have f5_:=f3_.symm;clear f1_ f2_ f3_;subst f4_;subst f5_))
       have p139 : 0 ≤ ((ji12) : Int):=of_decide_eq_true (by first|(with_reducible assumption)|assumption)
       have q139 : (ji12) < (t132.length : Int):=of_decide_eq_true (by first|(with_reducible assumption)|assumption)
       obtain ⟨ad139,e139,hx139_0⟩:=Kd.at_string (zW HO_4.out).2.2 (ji12) p139 q139;cases e139;replace p139:=eq_true p139;replace q139:=eq_true q139;have p144 : 0 ≤ (0 : Int):=(by omega)
       have q144 : 0 < (t132.length : Int):=of_decide_eq_true (by first|(with_reducible assumption)|assumption)
       obtain ⟨ad144,e144,hx144_0⟩:=Kd.at_string (zW HO_4.out).2.2 0 p144 q144;obtain rfl : ad139 = ad144:=(by injection e144)
       have qi144 : (0 < t132.length) = True:=eq_true (by omega)
       (try rw [show ((0 : Int)).toNat = 0 from rfl] at hx144_0)
       (try rw [Addr.add_zero'] at hx144_0);replace p144:=eq_true p144;replace q144:=eq_true q144;refine start_ (n:=17) (S:=fun w'=>w'.cell? (ad139.add ((ji12)).toNat) = some (.string (rdOf ByteArray.empty t132 (ji12)))∧w'.cell? ad139 = some (.string (rdOf ByteArray.empty t132 0))) (ds:=[]) #[n',n',n',n',n',n',n',n',n',n',n',n',n',n',n',n',n'] (by kernel_rfl) rfl rfl ⟨hx139_0,hx144_0⟩ (fun hHeld=>?_);refine with_tabW spec_l4signal.tab4 spec_l4signal.bits4 (fun HT_ HW_=>?_)
       generalize wc.drew = w18 at HO_4 BK131 HB hx139_0 hx144_0 hHeld ⊢
       refine pure_ (i:=1) (N:=some 22) (v:=?_) (a':=?_) #[n',y',n',n',n',n',n',n',n',n',n',n',n',n',n',n',n'] rfl rfl (any_of HT_.out (by kernel_rfl)) (fun _ _ _ h=>h) (Or.inl ⟨by rfl,?_⟩) ?_ ?_
       rotate_left
       ·intro w'
        go_simp
        with_reducible rfl
       rotate_left
       ·simp only [Act.put,u0,u1,u2,i64_w,i32_w]
        rfl
       refine pure_ (i:=2) (N:=some 23) (v:=?_) (a':=?_) #[n',y',y',n',n',n',n',n',n',n',n',n',n',n',n',n',n'] rfl rfl (any_of HT_.out (by kernel_rfl)) (fun _ _ _ h=>h) (Or.inl ⟨by rfl,?_⟩) ?_ ?_
       rotate_left
       ·intro w'
        go_simp
        with_reducible rfl
       rotate_left
       ·simp only [Act.put,u0,u1,u2,i64_w,i32_w]
        rfl
       refine pure_ (i:=3) (N:=some 24) (v:=?_) (a':=?_) #[n',y',y',y',n',n',n',n',n',n',n',n',n',n',n',n',n'] rfl rfl (any_of HT_.out (by kernel_rfl)) (fun _ _ _ h=>h) (Or.inl ⟨by rfl,?_⟩) ?_ ?_
       rotate_left
       ·intro w'
        go_simp
        with_reducible rfl
       rotate_left
       ·simp only [Act.put,u0,u1,u2,i64_w,i32_w]
        rfl
       refine pure_ (i:=4) (N:=some 25) (v:=?_) (a':=?_) #[n',y',y',y',y',n',n',n',n',n',n',n',n',n',n',n',n'] rfl rfl (any_of HT_.out (by kernel_rfl)) (fun _ _ _ h=>h) (Or.inl ⟨by rfl,?_⟩) ?_ ?_
       rotate_left
       ·intro w'
        go_simp
        with_reducible rfl
       rotate_left
       ·simp only [Act.put,u0,u1,u2,i64_w,i32_w]
        rfl
       refine pure_ (i:=5) (N:=some 26) (v:=?_) (a':=?_) #[n',y',y',y',y',y',n',n',n',n',n',n',n',n',n',n',n'] rfl rfl (any_of HT_.out (by kernel_rfl)) (fun _ _ _ h=>h) (Or.inl ⟨by rfl,?_⟩) ?_ ?_
       rotate_left
       ·intro w'
        go_simp
        with_reducible rfl
       rotate_left
       ·simp only [Act.put,u0,u1,u2,i64_w,i32_w]
        rfl
       refine pure_ (i:=9) (N:=some 30) (v:=?_) (a':=?_) #[n',y',y',y',y',y',n',n',n',y',n',n',n',n',n',n',n'] rfl rfl (any_of HT_.out (by kernel_rfl)) (fun _ _ _ h=>h) (Or.inl ⟨by rfl,?_⟩) ?_ ?_
       rotate_left
       ·intro w'
        go_simp
        with_reducible rfl
       rotate_left
       ·simp only [Act.put,u0,u1,u2,i64_w,i32_w]
        rfl
       refine pure_ (i:=10) (N:=some 31) (v:=?_) (a':=?_) #[n',y',y',y',y',y',n',n',n',y',y',n',n',n',n',n',n'] rfl rfl (any_of HT_.out (by kernel_rfl)) (fun _ _ _ h=>h) (Or.inl ⟨by rfl,?_⟩) ?_ ?_
       rotate_left
       ·intro w'
        go_simp
        with_reducible rfl
       rotate_left
       ·simp only [Act.put,u0,u1,u2,i64_w,i32_w]
        rfl
       refine take_ (i:=6) (N:=some 27) (v:=?_) (a':=?_) #[n',y',y',y',y',y',y',n',n',y',y',n',n',n',n',n',n'] rfl rfl (take_ofW HT_.out HW_.out (by kernel_rfl)) (fun _ _ _ h=>h) (Or.inl ⟨by rfl,?_⟩) hHeld ?_ ?_
       rotate_left
       ·rintro w' ⟨s0,s1⟩
        go_simp
        with_reducible rfl
       rotate_left
       ·simp only [Act.put,u0,u1,u2,i64_w,i32_w]
        rfl
       refine take_ (i:=11) (N:=some 32) (v:=?_) (a':=?_) #[n',y',y',y',y',y',y',n',n',y',y',y',n',n',n',n',n'] rfl rfl (take_ofW HT_.out HW_.out (by kernel_rfl)) (fun _ _ _ h=>h) (Or.inl ⟨by rfl,?_⟩) hHeld ?_ ?_
       rotate_left
       ·rintro w' ⟨s0,s1⟩
        go_simp
        with_reducible rfl
       rotate_left
       ·simp only [Act.put,u0,u1,u2,i64_w,i32_w]
        rfl
       refine pure_ (i:=12) (N:=some 33) (v:=?_) (a':=?_) #[n',y',y',y',y',y',y',n',n',y',y',y',y',n',n',n',n'] rfl rfl (any_of HT_.out (by kernel_rfl)) (fun _ _ _ h=>h) (Or.inl ⟨by rfl,?_⟩) ?_ ?_
       rotate_left
       ·intro w'
        go_simp
        with_reducible rfl
       rotate_left
       ·simp only [Act.put,u0,u1,u2,i64_w,i32_w]
        rfl
       refine join_ (σ:=Value × Value × Value × Nat) 1 #[y',y',y',y',y',y',y',y',y',y',y',y',y',y',y',y',n'] (fun s_=>[(21,s_.1),(28,.int .i64 t140),(29,s_.2.1),(34,s_.2.2.1),(5,.pointer (some ⟨s_.2.2.2,0,none⟩)),(35,.agg #[s_.1,s_.2.1,s_.2.2.1,.slice none 0 0])]) (fun s_ w'=>(w'.cell? (ad139.add ((ji12)).toNat) = some (.string (rdOf ByteArray.empty t132 (ji12)))∧w'.cell? ad139 = some (.string (rdOf ByteArray.empty t132 0)))∧(Kd.R (Kd.int .i64) 3 w' w.heap.size (fun k_=>(w.heap.size ≤ k_)∧some k_ ≠ (s_.2.1 : Value).ownBlock) s_.1 y136)∧(Kd.R (Kd.int .i64) 3 w' w.heap.size (fun k_=>(w.heap.size ≤ k_)∧some k_ ≠ (s_.1 : Value).ownBlock) s_.2.1 y141)∧(Kd.R Kd.bool 4 w' w.heap.size (fun k_=>(w.heap.size ≤ k_)) s_.2.2.1 y145)∧(Kd.R Kd.string 9 w' w.heap.size (fun k_=>(w.heap.size ≤ k_)) (.slice (some ad139) t132.length co19) t132)∧(w'.heap[gb131]? = some o4)∧(w'.heap[s_.2.2.2]? = some o4)∧(w.heap.size ≤ s_.2.2.2)∧(w.heap.size ≤ s_.2.2.2)∧(gb131 ≠ s_.2.2.2)∧(s_.2.2.2 ≠ gb131)∧(Below w.heap.size w w')) ?_ ?_
       rotate_left
       ·intro hJ0_7_8_13_15
        refine join_ (σ:=Value × Value × Value) 2 #[y',y',y',y',y',y',y',y',y',y',y',y',y',y',y',n',n'] (fun s_=>[(21,s_.1),(28,.int .i64 t140),(29,s_.2.1),(34,s_.2.2),(35,.agg #[s_.1,s_.2.1,s_.2.2,.slice none 0 0])]) (fun s_ w'=>(w'.cell? (ad139.add ((ji12)).toNat) = some (.string (rdOf ByteArray.empty t132 (ji12)))∧w'.cell? ad139 = some (.string (rdOf ByteArray.empty t132 0)))∧(Kd.R (Kd.int .i64) 3 w' w.heap.size (fun k_=>(w.heap.size ≤ k_)∧some k_ ≠ (s_.2.1 : Value).ownBlock) s_.1 y136)∧(Kd.R (Kd.int .i64) 3 w' w.heap.size (fun k_=>(w.heap.size ≤ k_)∧some k_ ≠ (s_.1 : Value).ownBlock) s_.2.1 y141)∧(Kd.R Kd.bool 4 w' w.heap.size (fun k_=>(w.heap.size ≤ k_)) s_.2.2 y145)∧(Kd.R Kd.string 9 w' w.heap.size (fun k_=>(w.heap.size ≤ k_)) (.slice (some ad139) t132.length co19) t132)∧(w'.heap[gb131]? = some o4)∧(Below w.heap.size w w')) ?_ ?_
        rotate_left
        ·intro hJ0_7_8_13
         refine join_ (σ:=Value × Value × Nat) 3 #[y',y',y',y',y',y',y',y',y',y',y',y',y',n',n',y',n'] (fun s_=>[(21,s_.1),(28,.int .i64 t140),(29,s_.2.1),(5,.pointer (some ⟨s_.2.2,0,none⟩))]) (fun s_ w'=>(w'.cell? (ad139.add ((ji12)).toNat) = some (.string (rdOf ByteArray.empty t132 (ji12)))∧w'.cell? ad139 = some (.string (rdOf ByteArray.empty t132 0)))∧(Kd.R (Kd.int .i64) 3 w' w.heap.size (fun k_=>(w.heap.size ≤ k_)∧some k_ ≠ (s_.2.1 : Value).ownBlock) s_.1 y136)∧(Kd.R (Kd.int .i64) 3 w' w.heap.size (fun k_=>(w.heap.size ≤ k_)∧some k_ ≠ (s_.1 : Value).ownBlock) s_.2.1 y141)∧(Kd.R Kd.string 9 w' w.heap.size (fun k_=>(w.heap.size ≤ k_)) (.slice (some ad139) t132.length co19) t132)∧(w'.heap[gb131]? = some o4)∧(w'.heap[s_.2.2]? = some o4)∧(w.heap.size ≤ s_.2.2)∧(w.heap.size ≤ s_.2.2)∧(gb131 ≠ s_.2.2)∧(s_.2.2 ≠ gb131)∧(Below w.heap.size w w')) ?_ ?_
         rotate_left
         ·intro hJ0_7_8_15
          refine join_ (σ:=Value × Value × Nat) 3 #[y',y',y',y',y',y',y',y',n',y',y',y',y',y',n',y',n'] (fun s_=>[(21,s_.1),(28,.int .i64 t140),(34,s_.2.1),(5,.pointer (some ⟨s_.2.2,0,none⟩))]) (fun s_ w'=>(w'.cell? (ad139.add ((ji12)).toNat) = some (.string (rdOf ByteArray.empty t132 (ji12)))∧w'.cell? ad139 = some (.string (rdOf ByteArray.empty t132 0)))∧(Kd.R (Kd.int .i64) 3 w' w.heap.size (fun k_=>(w.heap.size ≤ k_)) s_.1 y136)∧(Kd.R Kd.bool 4 w' w.heap.size (fun k_=>(w.heap.size ≤ k_)) s_.2.1 y145)∧(Kd.R Kd.string 9 w' w.heap.size (fun k_=>(w.heap.size ≤ k_)) (.slice (some ad139) t132.length co19) t132)∧(w'.heap[gb131]? = some o4)∧(w'.heap[s_.2.2]? = some o4)∧(w.heap.size ≤ s_.2.2)∧(w.heap.size ≤ s_.2.2)∧(gb131 ≠ s_.2.2)∧(s_.2.2 ≠ gb131)∧(Below w.heap.size w w')) ?_ ?_
          rotate_left
          ·intro hJ0_7_13_15
           refine join_ (σ:=Value × Value × Nat) 3 #[n',y',y',y',y',y',y',y',y',y',y',y',y',y',n',y',n'] (fun s_=>[(28,.int .i64 t140),(29,s_.1),(34,s_.2.1),(5,.pointer (some ⟨s_.2.2,0,none⟩))]) (fun s_ w'=>(w'.cell? (ad139.add ((ji12)).toNat) = some (.string (rdOf ByteArray.empty t132 (ji12)))∧w'.cell? ad139 = some (.string (rdOf ByteArray.empty t132 0)))∧(Kd.R (Kd.int .i64) 3 w' w.heap.size (fun k_=>(w.heap.size ≤ k_)) s_.1 y141)∧(Kd.R Kd.bool 4 w' w.heap.size (fun k_=>(w.heap.size ≤ k_)) s_.2.1 y145)∧(Kd.R Kd.string 9 w' w.heap.size (fun k_=>(w.heap.size ≤ k_)) (.slice (some ad139) t132.length co19) t132)∧(w'.heap[gb131]? = some o4)∧(w'.heap[s_.2.2]? = some o4)∧(w.heap.size ≤ s_.2.2)∧(w.heap.size ≤ s_.2.2)∧(gb131 ≠ s_.2.2)∧(s_.2.2 ≠ gb131)∧(Below w.heap.size w w')) ?_ ?_
           rotate_left
           ·intro hJ7_8_13_15
            refine join_ (σ:=Value × Value) 4 #[y',y',y',y',y',y',y',y',y',y',y',y',y',n',n',n',n'] (fun s_=>[(21,s_.1),(28,.int .i64 t140),(29,s_.2)]) (fun s_ w'=>(w'.cell? (ad139.add ((ji12)).toNat) = some (.string (rdOf ByteArray.empty t132 (ji12)))∧w'.cell? ad139 = some (.string (rdOf ByteArray.empty t132 0)))∧(Kd.R (Kd.int .i64) 3 w' w.heap.size (fun k_=>(w.heap.size ≤ k_)∧some k_ ≠ (s_.2 : Value).ownBlock) s_.1 y136)∧(Kd.R (Kd.int .i64) 3 w' w.heap.size (fun k_=>(w.heap.size ≤ k_)∧some k_ ≠ (s_.1 : Value).ownBlock) s_.2 y141)∧(Kd.R Kd.string 9 w' w.heap.size (fun k_=>(w.heap.size ≤ k_)) (.slice (some ad139) t132.length co19) t132)∧(w'.heap[gb131]? = some o4)∧(Below w.heap.size w w')) ?_ ?_
            rotate_left
            ·intro hJ0_7_8
             refine join_ (σ:=Value × Value) 4 #[y',y',y',y',y',y',y',y',n',y',y',y',y',y',n',n',n'] (fun s_=>[(21,s_.1),(28,.int .i64 t140),(34,s_.2)]) (fun s_ w'=>(w'.cell? (ad139.add ((ji12)).toNat) = some (.string (rdOf ByteArray.empty t132 (ji12)))∧w'.cell? ad139 = some (.string (rdOf ByteArray.empty t132 0)))∧(Kd.R (Kd.int .i64) 3 w' w.heap.size (fun k_=>(w.heap.size ≤ k_)) s_.1 y136)∧(Kd.R Kd.bool 4 w' w.heap.size (fun k_=>(w.heap.size ≤ k_)) s_.2 y145)∧(Kd.R Kd.string 9 w' w.heap.size (fun k_=>(w.heap.size ≤ k_)) (.slice (some ad139) t132.length co19) t132)∧(w'.heap[gb131]? = some o4)∧(Below w.heap.size w w')) ?_ ?_
             rotate_left
             ·intro hJ0_7_13
              refine join_ (σ:=Value × Nat) 4 #[y',y',y',y',y',y',y',y',n',y',y',y',y',n',n',y',n'] (fun s_=>[(21,s_.1),(28,.int .i64 t140),(5,.pointer (some ⟨s_.2,0,none⟩))]) (fun s_ w'=>(w'.cell? (ad139.add ((ji12)).toNat) = some (.string (rdOf ByteArray.empty t132 (ji12)))∧w'.cell? ad139 = some (.string (rdOf ByteArray.empty t132 0)))∧(Kd.R (Kd.int .i64) 3 w' w.heap.size (fun k_=>(w.heap.size ≤ k_)) s_.1 y136)∧(Kd.R Kd.string 9 w' w.heap.size (fun k_=>(w.heap.size ≤ k_)) (.slice (some ad139) t132.length co19) t132)∧(w'.heap[gb131]? = some o4)∧(w'.heap[s_.2]? = some o4)∧(w.heap.size ≤ s_.2)∧(w.heap.size ≤ s_.2)∧(gb131 ≠ s_.2)∧(s_.2 ≠ gb131)∧(Below w.heap.size w w')) ?_ ?_
              rotate_left
              ·intro hJ0_7_15
               refine join_ (σ:=Value × Value × Nat) 4 #[y',y',y',y',y',y',y',n',n',y',y',y',y',y',n',y',n'] (fun s_=>[(21,s_.1),(34,s_.2.1),(5,.pointer (some ⟨s_.2.2,0,none⟩))]) (fun s_ w'=>(w'.cell? (ad139.add ((ji12)).toNat) = some (.string (rdOf ByteArray.empty t132 (ji12)))∧w'.cell? ad139 = some (.string (rdOf ByteArray.empty t132 0)))∧(Kd.R (Kd.int .i64) 3 w' w.heap.size (fun k_=>(w.heap.size ≤ k_)) s_.1 y136)∧(Kd.R Kd.bool 4 w' w.heap.size (fun k_=>(w.heap.size ≤ k_)) s_.2.1 y145)∧(Kd.R Kd.string 9 w' w.heap.size (fun k_=>(w.heap.size ≤ k_)) (.slice (some ad139) t132.length co19) t132)∧(w'.heap[gb131]? = some o4)∧(w'.heap[s_.2.2]? = some o4)∧(w.heap.size ≤ s_.2.2)∧(w.heap.size ≤ s_.2.2)∧(gb131 ≠ s_.2.2)∧(s_.2.2 ≠ gb131)∧(Below w.heap.size w w')) ?_ ?_
               rotate_left
               ·intro hJ0_13_15
                refine join_ (σ:=Value × Value) 4 #[n',y',y',y',y',y',y',y',y',y',y',y',y',y',n',n',n'] (fun s_=>[(28,.int .i64 t140),(29,s_.1),(34,s_.2)]) (fun s_ w'=>(w'.cell? (ad139.add ((ji12)).toNat) = some (.string (rdOf ByteArray.empty t132 (ji12)))∧w'.cell? ad139 = some (.string (rdOf ByteArray.empty t132 0)))∧(Kd.R (Kd.int .i64) 3 w' w.heap.size (fun k_=>(w.heap.size ≤ k_)) s_.1 y141)∧(Kd.R Kd.bool 4 w' w.heap.size (fun k_=>(w.heap.size ≤ k_)) s_.2 y145)∧(Kd.R Kd.string 9 w' w.heap.size (fun k_=>(w.heap.size ≤ k_)) (.slice (some ad139) t132.length co19) t132)∧(w'.heap[gb131]? = some o4)∧(Below w.heap.size w w')) ?_ ?_
                rotate_left
                ·intro hJ7_8_13
                 refine join_ (σ:=Value × Nat) 4 #[n',y',y',y',y',y',y',y',y',y',y',y',y',n',n',y',n'] (fun s_=>[(28,.int .i64 t140),(29,s_.1),(5,.pointer (some ⟨s_.2,0,none⟩))]) (fun s_ w'=>(w'.cell? (ad139.add ((ji12)).toNat) = some (.string (rdOf ByteArray.empty t132 (ji12)))∧w'.cell? ad139 = some (.string (rdOf ByteArray.empty t132 0)))∧(Kd.R (Kd.int .i64) 3 w' w.heap.size (fun k_=>(w.heap.size ≤ k_)) s_.1 y141)∧(Kd.R Kd.string 9 w' w.heap.size (fun k_=>(w.heap.size ≤ k_)) (.slice (some ad139) t132.length co19) t132)∧(w'.heap[gb131]? = some o4)∧(w'.heap[s_.2]? = some o4)∧(w.heap.size ≤ s_.2)∧(w.heap.size ≤ s_.2)∧(gb131 ≠ s_.2)∧(s_.2 ≠ gb131)∧(Below w.heap.size w w')) ?_ ?_
                 rotate_left
                 ·intro hJ7_8_15
                  refine join_ (σ:=Value × Nat) 4 #[n',y',y',y',y',y',y',y',n',y',y',y',y',y',n',y',n'] (fun s_=>[(28,.int .i64 t140),(34,s_.1),(5,.pointer (some ⟨s_.2,0,none⟩))]) (fun s_ w'=>(w'.cell? (ad139.add ((ji12)).toNat) = some (.string (rdOf ByteArray.empty t132 (ji12)))∧w'.cell? ad139 = some (.string (rdOf ByteArray.empty t132 0)))∧(Kd.R Kd.bool 4 w' w.heap.size (fun k_=>(w.heap.size ≤ k_)) s_.1 y145)∧(Kd.R Kd.string 9 w' w.heap.size (fun k_=>(w.heap.size ≤ k_)) (.slice (some ad139) t132.length co19) t132)∧(w'.heap[gb131]? = some o4)∧(w'.heap[s_.2]? = some o4)∧(w.heap.size ≤ s_.2)∧(w.heap.size ≤ s_.2)∧(gb131 ≠ s_.2)∧(s_.2 ≠ gb131)∧(Below w.heap.size w w')) ?_ ?_
                  rotate_left
                  ·intro hJ7_13_15
                   refine join_ (σ:=Value) 5 #[y',y',y',y',y',y',y',y',n',y',y',y',y',n',n',n',n'] (fun s_=>[(21,s_),(28,.int .i64 t140)]) (fun s_ w'=>(w'.cell? (ad139.add ((ji12)).toNat) = some (.string (rdOf ByteArray.empty t132 (ji12)))∧w'.cell? ad139 = some (.string (rdOf ByteArray.empty t132 0)))∧(Kd.R (Kd.int .i64) 3 w' w.heap.size (fun k_=>(w.heap.size ≤ k_)) s_ y136)∧(Kd.R Kd.string 9 w' w.heap.size (fun k_=>(w.heap.size ≤ k_)) (.slice (some ad139) t132.length co19) t132)∧(w'.heap[gb131]? = some o4)∧(Below w.heap.size w w')) ?_ ?_
                   rotate_left
                   ·intro hJ0_7
                    refine join_ (σ:=Value × Value) 5 #[y',y',y',y',y',y',y',n',n',y',y',y',y',y',n',n',n'] (fun s_=>[(21,s_.1),(34,s_.2)]) (fun s_ w'=>(w'.cell? (ad139.add ((ji12)).toNat) = some (.string (rdOf ByteArray.empty t132 (ji12)))∧w'.cell? ad139 = some (.string (rdOf ByteArray.empty t132 0)))∧(Kd.R (Kd.int .i64) 3 w' w.heap.size (fun k_=>(w.heap.size ≤ k_)) s_.1 y136)∧(Kd.R Kd.bool 4 w' w.heap.size (fun k_=>(w.heap.size ≤ k_)) s_.2 y145)∧(Kd.R Kd.string 9 w' w.heap.size (fun k_=>(w.heap.size ≤ k_)) (.slice (some ad139) t132.length co19) t132)∧(w'.heap[gb131]? = some o4)∧(Below w.heap.size w w')) ?_ ?_
                    rotate_left
                    ·intro hJ0_13
                     refine join_ (σ:=Value × Nat) 5 #[y',y',y',y',y',y',y',n',n',y',y',y',y',n',n',y',n'] (fun s_=>[(21,s_.1),(5,.pointer (some ⟨s_.2,0,none⟩))]) (fun s_ w'=>(w'.cell? (ad139.add ((ji12)).toNat) = some (.string (rdOf ByteArray.empty t132 (ji12)))∧w'.cell? ad139 = some (.string (rdOf ByteArray.empty t132 0)))∧(Kd.R (Kd.int .i64) 3 w' w.heap.size (fun k_=>(w.heap.size ≤ k_)) s_.1 y136)∧(Kd.R Kd.string 9 w' w.heap.size (fun k_=>(w.heap.size ≤ k_)) (.slice (some ad139) t132.length co19) t132)∧(w'.heap[gb131]? = some o4)∧(w'.heap[s_.2]? = some o4)∧(w.heap.size ≤ s_.2)∧(w.heap.size ≤ s_.2)∧(gb131 ≠ s_.2)∧(s_.2 ≠ gb131)∧(Below w.heap.size w w')) ?_ ?_
                     rotate_left
                     ·intro hJ0_15
                      refine join_ (σ:=Value) 5 #[n',y',y',y',y',y',y',y',y',y',y',y',y',n',n',n',n'] (fun s_=>[(28,.int .i64 t140),(29,s_)]) (fun s_ w'=>(w'.cell? (ad139.add ((ji12)).toNat) = some (.string (rdOf ByteArray.empty t132 (ji12)))∧w'.cell? ad139 = some (.string (rdOf ByteArray.empty t132 0)))∧(Kd.R (Kd.int .i64) 3 w' w.heap.size (fun k_=>(w.heap.size ≤ k_)) s_ y141)∧(Kd.R Kd.string 9 w' w.heap.size (fun k_=>(w.heap.size ≤ k_)) (.slice (some ad139) t132.length co19) t132)∧(w'.heap[gb131]? = some o4)∧(Below w.heap.size w w')) ?_ ?_
                      rotate_left
                      ·intro hJ7_8
                       refine join_ (σ:=Value) 5 #[n',y',y',y',y',y',y',y',n',y',y',y',y',y',n',n',n'] (fun s_=>[(28,.int .i64 t140),(34,s_)]) (fun s_ w'=>(w'.cell? (ad139.add ((ji12)).toNat) = some (.string (rdOf ByteArray.empty t132 (ji12)))∧w'.cell? ad139 = some (.string (rdOf ByteArray.empty t132 0)))∧(Kd.R Kd.bool 4 w' w.heap.size (fun k_=>(w.heap.size ≤ k_)) s_ y145)∧(Kd.R Kd.string 9 w' w.heap.size (fun k_=>(w.heap.size ≤ k_)) (.slice (some ad139) t132.length co19) t132)∧(w'.heap[gb131]? = some o4)∧(Below w.heap.size w w')) ?_ ?_
                       rotate_left
                       ·intro hJ7_13
                        refine join_ (σ:=Nat) 5 #[n',y',y',y',y',y',y',y',n',y',y',y',y',n',n',y',n'] (fun s_=>[(28,.int .i64 t140),(5,.pointer (some ⟨s_,0,none⟩))]) (fun s_ w'=>(w'.cell? (ad139.add ((ji12)).toNat) = some (.string (rdOf ByteArray.empty t132 (ji12)))∧w'.cell? ad139 = some (.string (rdOf ByteArray.empty t132 0)))∧(Kd.R Kd.string 9 w' w.heap.size (fun k_=>(w.heap.size ≤ k_)) (.slice (some ad139) t132.length co19) t132)∧(w'.heap[gb131]? = some o4)∧(w'.heap[s_]? = some o4)∧(w.heap.size ≤ s_)∧(w.heap.size ≤ s_)∧(gb131 ≠ s_)∧(s_ ≠ gb131)∧(Below w.heap.size w w')) ?_ ?_
                        rotate_left
                        ·intro hJ7_15
                         refine join_ (σ:=Value × Nat) 5 #[n',y',y',y',y',y',y',n',n',y',y',y',y',y',n',y',n'] (fun s_=>[(34,s_.1),(5,.pointer (some ⟨s_.2,0,none⟩))]) (fun s_ w'=>(w'.cell? (ad139.add ((ji12)).toNat) = some (.string (rdOf ByteArray.empty t132 (ji12)))∧w'.cell? ad139 = some (.string (rdOf ByteArray.empty t132 0)))∧(Kd.R Kd.bool 4 w' w.heap.size (fun k_=>(w.heap.size ≤ k_)) s_.1 y145)∧(Kd.R Kd.string 9 w' w.heap.size (fun k_=>(w.heap.size ≤ k_)) (.slice (some ad139) t132.length co19) t132)∧(w'.heap[gb131]? = some o4)∧(w'.heap[s_.2]? = some o4)∧(w.heap.size ≤ s_.2)∧(w.heap.size ≤ s_.2)∧(gb131 ≠ s_.2)∧(s_.2 ≠ gb131)∧(Below w.heap.size w w')) ?_ ?_
                         rotate_left
                         ·intro hJ13_15
                          refine join_ (σ:=Value) 6 #[y',y',y',y',y',y',y',n',n',y',y',y',y',n',n',n',n'] (fun s_=>[(21,s_)]) (fun s_ w'=>(w'.cell? (ad139.add ((ji12)).toNat) = some (.string (rdOf ByteArray.empty t132 (ji12)))∧w'.cell? ad139 = some (.string (rdOf ByteArray.empty t132 0)))∧(Kd.R (Kd.int .i64) 3 w' w.heap.size (fun k_=>(w.heap.size ≤ k_)) s_ y136)∧(Kd.R Kd.string 9 w' w.heap.size (fun k_=>(w.heap.size ≤ k_)) (.slice (some ad139) t132.length co19) t132)∧(w'.heap[gb131]? = some o4)∧(Below w.heap.size w w')) ?_ ?_
                          rotate_left
                          ·intro hJ0
                           refine join_ (σ:=Unit) 6 #[n',y',y',y',y',y',y',y',n',y',y',y',y',n',n',n',n'] (fun s_=>[(28,.int .i64 t140)]) (fun s_ w'=>(w'.cell? (ad139.add ((ji12)).toNat) = some (.string (rdOf ByteArray.empty t132 (ji12)))∧w'.cell? ad139 = some (.string (rdOf ByteArray.empty t132 0)))∧(Kd.R Kd.string 9 w' w.heap.size (fun k_=>(w.heap.size ≤ k_)) (.slice (some ad139) t132.length co19) t132)∧(w'.heap[gb131]? = some o4)∧(Below w.heap.size w w')) ?_ ?_
                           rotate_left
                           ·intro hJ7
                            refine join_ (σ:=Value) 6 #[n',y',y',y',y',y',y',n',n',y',y',y',y',y',n',n',n'] (fun s_=>[(34,s_)]) (fun s_ w'=>(w'.cell? (ad139.add ((ji12)).toNat) = some (.string (rdOf ByteArray.empty t132 (ji12)))∧w'.cell? ad139 = some (.string (rdOf ByteArray.empty t132 0)))∧(Kd.R Kd.bool 4 w' w.heap.size (fun k_=>(w.heap.size ≤ k_)) s_ y145)∧(Kd.R Kd.string 9 w' w.heap.size (fun k_=>(w.heap.size ≤ k_)) (.slice (some ad139) t132.length co19) t132)∧(w'.heap[gb131]? = some o4)∧(Below w.heap.size w w')) ?_ ?_
                            rotate_left
                            ·intro hJ13
                             refine join_ (σ:=Nat) 6 #[n',y',y',y',y',y',y',n',n',y',y',y',y',n',n',y',n'] (fun s_=>[(5,.pointer (some ⟨s_,0,none⟩))]) (fun s_ w'=>(w'.cell? (ad139.add ((ji12)).toNat) = some (.string (rdOf ByteArray.empty t132 (ji12)))∧w'.cell? ad139 = some (.string (rdOf ByteArray.empty t132 0)))∧(Kd.R Kd.string 9 w' w.heap.size (fun k_=>(w.heap.size ≤ k_)) (.slice (some ad139) t132.length co19) t132)∧(w'.heap[gb131]? = some o4)∧(w'.heap[s_]? = some o4)∧(w.heap.size ≤ s_)∧(w.heap.size ≤ s_)∧(gb131 ≠ s_)∧(s_ ≠ gb131)∧(Below w.heap.size w w')) ?_ ?_
                             rotate_left
                             ·intro hJ15
                              refine four_ (i:=0) (j:=7) (k:=13) (m:=15) (Ni:=some 21) (Nj:=some 28) (Nk:=some 34) (Nm:=some 5) #[y',y',y',y',y',y',y',n',n',y',y',y',y',n',n',n',n'] #[n',y',y',y',y',y',y',y',n',y',y',y',y',n',n',n',n'] #[n',y',y',y',y',y',y',n',n',y',y',y',y',y',n',n',n'] #[n',y',y',y',y',y',y',n',n',y',y',y',y',n',n',y',n'] rfl rfl rfl rfl rfl rfl rfl rfl (four_of HT_.out (by kernel_rfl)) (by decide) (by decide) (by decide) (by decide) (fun K hK=>?_) (fun K hK=>?_) (fun K hK=>?_) (fun K hK=>?_)
                              ·skip
                               refine Kd.R_lit_step (Kd.int .i64) _ 3 ?hg (N:=21) ?hd (xs:=([(-1)] : List Int)) (inner:=[.int .i64 (-1)]) (ok:=fun _=>True) (okp:=fun _=>True) ?hr ?hp (fun _ hk=>hk) trivial (Below.refl _ _) (Nat.le_refl _) (by simp) ?_;(case hd=>rfl);(case hg=>rfl);(case hr=>first|(go_simp;done)|(go_simp;rfl));(case hp=>exact (Reps.one (show Kd.M (Kd.int .i64) _ _ _ (-1) [.int .i64 (-1)] from rfl) (Reps.none _ _)))
                               intro v137 w20 ho21 hb hg_ hnew_
                               have HS0_:=z3 hb hHeld.1;have HS1_:=z3 hb hHeld.2;clear hg_ hnew_;(first|rw [← Ny136.out] at ho21|(simp only [Int.reduceToNat] at ho21;rw [← Ny136.out] at ho21))
                               replace HO_4:=zm (zHb (by exact HO_4.out) hb)
                               have HO138:=zm (zZ (Kd.R_newM (M:=fun k_=>(w.heap.size ≤ k_)) ho21 (zJ (by with_reducible repeat first|exact HB.out|apply zA|apply zB|apply zC)) (fun k_ h_=>h_)) (zJ (by with_reducible repeat first|exact HB.out|apply zA|apply zB|apply zC)))
                               replace BK131:=zm (zL (by exact BK131.out) hb)
                               replace HB:=zm (zK (by with_reducible repeat first|exact HB.out|apply zA|apply zB|apply zC) hb)
                               clear hb ho21;refine hK.out _ _ ⟨HS0_,HS1_⟩ (fun hHeld=>?_)
                               clear hK K;refine norm_ (a':=?_) ?_ ?_
                               rotate_left
                               ·show Act.put _ (some 21) _ = _
                                simp only [Act.put,u0,u1,u2,i64_w,i32_w]
                                rfl
                               exact norm_ (by simp only [putAll,Act.put,u0,u1,u2];try rfl) (hJ0 (v137) _ ⟨hHeld,(by exact zS HO138.out (fun _ hk=>hk.1)),(by exact HO_4.out),(by exact BK131.out),(by with_reducible repeat first|exact HB.out|apply zA|apply zB|apply zC)⟩)
                              ·skip
                               refine goes_ Try.func51 (by kernel_rfl) rfl #[.string (rdOf ByteArray.empty t132 (ji12))] (by rfl) rfl rfl (by (try simp only [List.map_toArray,List.map_cons,List.map_nil]);first|done|(simp only [hji12];rfl)|rfl|(simp only [List.length_drop,List.length_take];rfl)) ?_
                               with_reducible refine (spec_l4num.calls kj2 (rdOf ByteArray.empty t132 (ji12)) t140 _ A15.out).mono ?_
                               rintro e w20 ⟨rfl,hb⟩
                               have HS0_:=z3 hb hHeld.1;have HS1_:=z3 hb hHeld.2;refine ⟨_,rfl,?_⟩
                               replace HO_4:=zm (zHb (by exact HO_4.out) hb)
                               replace BK131:=zm (zL (by exact BK131.out) hb)
                               replace HB:=zm (zK (by with_reducible repeat first|exact HB.out|apply zA|apply zB|apply zC) hb)
                               (try clear hb);(try clear hb2);(try clear hk);(try clear hi);refine hK.out _ _ ⟨HS0_,HS1_⟩ (fun hHeld=>?_)
                               clear hK K;refine norm_ (a':=?_) ?_ ?_
                               rotate_left
                               ·show Act.put _ (some 28) _ = _
                                simp only [Act.put,u0,u1,u2,i64_w,i32_w]
                                rfl
                               exact norm_ (by simp only [putAll,Act.put,u0,u1,u2];try rfl) (hJ7 () _ ⟨hHeld,(by exact HO_4.out),(by exact BK131.out),(by with_reducible repeat first|exact HB.out|apply zA|apply zB|apply zC)⟩)
                              ·skip
                               refine Kd.R_lit_step Kd.bool _ 4 ?hg (N:=34) ?hd (xs:=([((rdOf ByteArray.empty t132 0).toList == ([111,112,101,110] : List UInt8))] : List Bool)) (inner:=[.bool ((rdOf ByteArray.empty t132 0).toList == ([111,112,101,110] : List UInt8))]) (ok:=fun _=>True) (okp:=fun _=>True) ?hr ?hp (fun _ hk=>hk) trivial (Below.refl _ _) (Nat.le_refl _) (by simp) ?_;(case hd=>rfl);(case hg=>rfl);(case hr=>first|(go_simp;done)|(go_simp;rfl));(case hp=>exact (Reps.one (show Kd.M Kd.bool _ _ _ ((rdOf ByteArray.empty t132 0).toList == ([111,112,101,110] : List UInt8)) [.bool ((rdOf ByteArray.empty t132 0).toList == ([111,112,101,110] : List UInt8))] from rfl) (Reps.none _ _)))
                               intro v146 w20 ho21 hb hg_ hnew_
                               have HS0_:=z3 hb hHeld.1;have HS1_:=z3 hb hHeld.2;clear hg_ hnew_;(first|rw [← Ny145.out] at ho21|(simp only [Int.reduceToNat] at ho21;rw [← Ny145.out] at ho21))
                               replace HO_4:=zm (zHb (by exact HO_4.out) hb)
                               have HO147:=zm (zZ (Kd.R_newM (M:=fun k_=>(w.heap.size ≤ k_)) ho21 (zJ (by with_reducible repeat first|exact HB.out|apply zA|apply zB|apply zC)) (fun k_ h_=>h_)) (zJ (by with_reducible repeat first|exact HB.out|apply zA|apply zB|apply zC)))
                               replace BK131:=zm (zL (by exact BK131.out) hb)
                               replace HB:=zm (zK (by with_reducible repeat first|exact HB.out|apply zA|apply zB|apply zC) hb)
                               clear hb ho21;refine hK.out _ _ ⟨HS0_,HS1_⟩ (fun hHeld=>?_)
                               clear hK K;refine norm_ (a':=?_) ?_ ?_
                               rotate_left
                               ·show Act.put _ (some 34) _ = _
                                simp only [Act.put,u0,u1,u2,i64_w,i32_w]
                                rfl
                               exact norm_ (by simp only [putAll,Act.put,u0,u1,u2];try rfl) (hJ13 (v146) _ ⟨hHeld,(by exact zS HO147.out (fun _ hk=>hk.1)),(by exact HO_4.out),(by exact BK131.out),(by with_reducible repeat first|exact HB.out|apply zA|apply zB|apply zC)⟩)
                              ·skip
                               refine box_step ?hg (N:=5) ?hd (cs:=#[.slice none 0 0,.slice none 0 0,.slice none 0 0,.slice none 0 0]) (t:=30) ?hr ?_;(case hd=>rfl);(case hg=>rfl);(case hr=>first|(go_simp;done)|(go_simp;rfl))
                               intro gb148 hg w20 hbox hb
                               have HS0_:=z3 hb hHeld.1;have HS1_:=z3 hb hHeld.2;have n0_:=zm (zHb (by exact HO_4.out) hb)
                               have n1_:=zm (zL (by exact BK131.out) hb)
                               have n2_:=zm (zK (by with_reducible repeat first|exact HB.out|apply zA|apply zB|apply zC) hb)
                               have n3_:=zm (hbox);have n4_:=zm ((by rw [hg];exact (zJ (by with_reducible repeat first|exact HB.out|apply zA|apply zB|apply zC)) : w.heap.size ≤ gb148))
                               have n5_:=zm ((by rw [hg];exact (zJ (by with_reducible repeat first|exact HB.out|apply zA|apply zB|apply zC)) : w.heap.size ≤ gb148))
                               have n6_:=zm ((by rw [hg];exact Nat.ne_of_lt (blk_lt (by exact BK131.out)) : gb131 ≠ gb148))
                               have n7_:=zm ((by rw [hg];exact Nat.ne_of_gt (blk_lt (by exact BK131.out)) : gb148 ≠ gb131))
                               clear HO_4 BK131 HB;have HO_4:=n0_;have BK131:=n1_;have HB:=n2_;have BK148:=n3_;have GW148:=n4_;have GE148:=n5_;have NB131_148:=n6_;have NB148_131:=n7_;clear n0_ n1_ n2_ n3_ n4_ n5_ n6_ n7_;clear hb hbox hg;refine hK.out _ _ ⟨HS0_,HS1_⟩ (fun hHeld=>?_)
                               clear hK K;refine norm_ (a':=?_) ?_ ?_
                               rotate_left
                               ·show Act.put _ (some 5) _ = _
                                simp only [Act.put,u0,u1,u2,i64_w,i32_w]
                                rfl
                               exact norm_ (by simp only [putAll,Act.put,u0,u1,u2];try rfl) (hJ15 (gb148) _ ⟨hHeld,(by exact HO_4.out),(by exact BK131.out),(by exact BK148.out),GW148.out,GE148.out,NB131_148.out,NB148_131.out,(by with_reducible repeat first|exact HB.out|apply zA|apply zB|apply zC)⟩)
                             ·skip
                              rintro gb148 w21 ⟨hS_,h0_,h1_,h2_,h3_,h4_,h5_,h6_,h7_⟩
                              replace HO_4 : Aside0 (Kd.R Kd.string 9 w21 w.heap.size (fun k_=>(w.heap.size ≤ k_)) (.slice (some ad139) t132.length co19) t132):=⟨h0_⟩
                              replace BK131 : Aside0 (w21.heap[gb131]? = some o4):=⟨h1_⟩;have BK148 : Aside0 (w21.heap[gb148]? = some o4):=⟨h2_⟩;have GW148 : Aside0 (w.heap.size ≤ gb148):=⟨h3_⟩;have GE148 : Aside0 (w.heap.size ≤ gb148):=⟨h4_⟩;have NB131_148 : Aside0 (gb131 ≠ gb148):=⟨h5_⟩;have NB148_131 : Aside0 (gb148 ≠ gb131):=⟨h6_⟩;replace HB : Aside0 (Below w.heap.size w w21):=⟨h7_⟩;clear h0_ h1_ h2_ h3_ h4_ h5_ h6_ h7_;have hHeld : w21.cell? (ad139.add ((ji12)).toNat) = some (.string (rdOf ByteArray.empty t132 (ji12)))∧w21.cell? ad139 = some (.string (rdOf ByteArray.empty t132 0)):=hS_;refine norm_ (a':=?_) ?_ ?_
                              rotate_left
                              ·simp only [putAll,Act.put,u0,u1,u2]
                               rfl
                              refine three_ (i:=0) (j:=7) (k:=13) (Ni:=some 21) (Nj:=some 28) (Nk:=some 34) #[y',y',y',y',y',y',y',n',n',y',y',y',y',n',n',y',n'] #[n',y',y',y',y',y',y',y',n',y',y',y',y',n',n',y',n'] #[n',y',y',y',y',y',y',n',n',y',y',y',y',y',n',y',n'] rfl rfl rfl rfl rfl rfl (three_of HT_.out (by kernel_rfl)) (by decide) (by decide) (by decide) (fun K hK=>?_) (fun K hK=>?_) (fun K hK=>?_)
                              ·skip
                               refine Kd.R_lit_step (Kd.int .i64) _ 3 ?hg (N:=21) ?hd (xs:=([(-1)] : List Int)) (inner:=[.int .i64 (-1)]) (ok:=fun _=>True) (okp:=fun _=>True) ?hr ?hp (fun _ hk=>hk) trivial (Below.refl _ _) (Nat.le_refl _) (by simp) ?_;(case hd=>rfl);(case hg=>rfl);(case hr=>first|(go_simp;done)|(go_simp;rfl));(case hp=>exact (Reps.one (show Kd.M (Kd.int .i64) _ _ _ (-1) [.int .i64 (-1)] from rfl) (Reps.none _ _)))
                               intro v137 w22 ho23 hb hg_ hnew_
                               have HS0_:=z3 hb hHeld.1;have HS1_:=z3 hb hHeld.2;clear hg_ hnew_;(first|rw [← Ny136.out] at ho23|(simp only [Int.reduceToNat] at ho23;rw [← Ny136.out] at ho23))
                               replace HO_4:=zm (zHb (by exact HO_4.out) hb)
                               have HO138:=zm (zZ (Kd.R_newM (M:=fun k_=>(w.heap.size ≤ k_)) ho23 (zJ (by with_reducible repeat first|exact HB.out|apply zA|apply zB|apply zC)) (fun k_ h_=>h_)) (zJ (by with_reducible repeat first|exact HB.out|apply zA|apply zB|apply zC)))
                               replace BK131:=zm (zL (by exact BK131.out) hb)
                               replace BK148:=zm (zL (by exact BK148.out) hb)
                               replace HB:=zm (zK (by with_reducible repeat first|exact HB.out|apply zA|apply zB|apply zC) hb)
                               clear hb ho23;refine hK.out _ _ ⟨HS0_,HS1_⟩ (fun hHeld=>?_)
                               clear hK K;refine norm_ (a':=?_) ?_ ?_
                               rotate_left
                               ·show Act.put _ (some 21) _ = _
                                simp only [Act.put,u0,u1,u2,i64_w,i32_w]
                                rfl
                               exact norm_ (by simp only [putAll,Act.put,u0,u1,u2];try rfl) (hJ0_15 (v137,gb148) _ ⟨hHeld,(by exact zS HO138.out (fun _ hk=>hk.1)),(by exact HO_4.out),(by exact BK131.out),(by exact BK148.out),GW148.out,GE148.out,NB131_148.out,NB148_131.out,(by with_reducible repeat first|exact HB.out|apply zA|apply zB|apply zC)⟩)
                              ·skip
                               refine goes_ Try.func51 (by kernel_rfl) rfl #[.string (rdOf ByteArray.empty t132 (ji12))] (by rfl) rfl rfl (by (try simp only [List.map_toArray,List.map_cons,List.map_nil]);first|done|(simp only [hji12];rfl)|rfl|(simp only [List.length_drop,List.length_take];rfl)) ?_
                               with_reducible refine (spec_l4num.calls kj2 (rdOf ByteArray.empty t132 (ji12)) t140 _ A15.out).mono ?_
                               rintro e w22 ⟨rfl,hb⟩
                               have HS0_:=z3 hb hHeld.1;have HS1_:=z3 hb hHeld.2;refine ⟨_,rfl,?_⟩
                               replace HO_4:=zm (zHb (by exact HO_4.out) hb)
                               replace BK131:=zm (zL (by exact BK131.out) hb)
                               replace BK148:=zm (zL (by exact BK148.out) hb)
                               replace HB:=zm (zK (by with_reducible repeat first|exact HB.out|apply zA|apply zB|apply zC) hb)
                               (try clear hb);(try clear hb2);(try clear hk);(try clear hi);refine hK.out _ _ ⟨HS0_,HS1_⟩ (fun hHeld=>?_)
                               clear hK K;refine norm_ (a':=?_) ?_ ?_
                               rotate_left
                               ·show Act.put _ (some 28) _ = _
                                simp only [Act.put,u0,u1,u2,i64_w,i32_w]
                                rfl
                               exact norm_ (by simp only [putAll,Act.put,u0,u1,u2];try rfl) (hJ7_15 (gb148) _ ⟨hHeld,(by exact HO_4.out),(by exact BK131.out),(by exact BK148.out),GW148.out,GE148.out,NB131_148.out,NB148_131.out,(by with_reducible repeat first|exact HB.out|apply zA|apply zB|apply zC)⟩)
                              ·skip
                               refine Kd.R_lit_step Kd.bool _ 4 ?hg (N:=34) ?hd (xs:=([((rdOf ByteArray.empty t132 0).toList == ([111,112,101,110] : List UInt8))] : List Bool)) (inner:=[.bool ((rdOf ByteArray.empty t132 0).toList == ([111,112,101,110] : List UInt8))]) (ok:=fun _=>True) (okp:=fun _=>True) ?hr ?hp (fun _ hk=>hk) trivial (Below.refl _ _) (Nat.le_refl _) (by simp) ?_;(case hd=>rfl);(case hg=>rfl);(case hr=>first|(go_simp;done)|(go_simp;rfl));(case hp=>exact (Reps.one (show Kd.M Kd.bool _ _ _ ((rdOf ByteArray.empty t132 0).toList == ([111,112,101,110] : List UInt8)) [.bool ((rdOf ByteArray.empty t132 0).toList == ([111,112,101,110] : List UInt8))] from rfl) (Reps.none _ _)))
                               intro v146 w22 ho23 hb hg_ hnew_
                               have HS0_:=z3 hb hHeld.1;have HS1_:=z3 hb hHeld.2;clear hg_ hnew_;(first|rw [← Ny145.out] at ho23|(simp only [Int.reduceToNat] at ho23;rw [← Ny145.out] at ho23))
                               replace HO_4:=zm (zHb (by exact HO_4.out) hb)
                               have HO147:=zm (zZ (Kd.R_newM (M:=fun k_=>(w.heap.size ≤ k_)) ho23 (zJ (by with_reducible repeat first|exact HB.out|apply zA|apply zB|apply zC)) (fun k_ h_=>h_)) (zJ (by with_reducible repeat first|exact HB.out|apply zA|apply zB|apply zC)))
                               replace BK131:=zm (zL (by exact BK131.out) hb)
                               replace BK148:=zm (zL (by exact BK148.out) hb)
                               replace HB:=zm (zK (by with_reducible repeat first|exact HB.out|apply zA|apply zB|apply zC) hb)
                               clear hb ho23;refine hK.out _ _ ⟨HS0_,HS1_⟩ (fun hHeld=>?_)
                               clear hK K;refine norm_ (a':=?_) ?_ ?_
                               rotate_left
                               ·show Act.put _ (some 34) _ = _
                                simp only [Act.put,u0,u1,u2,i64_w,i32_w]
                                rfl
                               exact norm_ (by simp only [putAll,Act.put,u0,u1,u2];try rfl) (hJ13_15 (v146,gb148) _ ⟨hHeld,(by exact zS HO147.out (fun _ hk=>hk.1)),(by exact HO_4.out),(by exact BK131.out),(by exact BK148.out),GW148.out,GE148.out,NB131_148.out,NB148_131.out,(by with_reducible repeat first|exact HB.out|apply zA|apply zB|apply zC)⟩)
                            ·skip
                             rintro v146 w22 ⟨hS_,h0_,h1_,h2_,h3_⟩
                             have HO147 : Aside0 (Kd.R Kd.bool 4 w22 w.heap.size (fun k_=>(w.heap.size ≤ k_)) v146 y145):=⟨h0_⟩
                             replace HO_4 : Aside0 (Kd.R Kd.string 9 w22 w.heap.size (fun k_=>(w.heap.size ≤ k_)) (.slice (some ad139) t132.length co19) t132):=⟨h1_⟩
                             replace BK131 : Aside0 (w22.heap[gb131]? = some o4):=⟨h2_⟩;replace HB : Aside0 (Below w.heap.size w w22):=⟨h3_⟩;clear h0_ h1_ h2_ h3_;have hHeld : w22.cell? (ad139.add ((ji12)).toNat) = some (.string (rdOf ByteArray.empty t132 (ji12)))∧w22.cell? ad139 = some (.string (rdOf ByteArray.empty t132 0)):=hS_;refine norm_ (a':=?_) ?_ ?_
                             rotate_left
                             ·simp only [putAll,Act.put,u0,u1,u2]
                              rfl
                             refine three_ (i:=0) (j:=7) (k:=15) (Ni:=some 21) (Nj:=some 28) (Nk:=some 5) #[y',y',y',y',y',y',y',n',n',y',y',y',y',y',n',n',n'] #[n',y',y',y',y',y',y',y',n',y',y',y',y',y',n',n',n'] #[n',y',y',y',y',y',y',n',n',y',y',y',y',y',n',y',n'] rfl rfl rfl rfl rfl rfl (three_of HT_.out (by kernel_rfl)) (by decide) (by decide) (by decide) (fun K hK=>?_) (fun K hK=>?_) (fun K hK=>?_)
                             ·skip
                              refine Kd.R_lit_step (Kd.int .i64) _ 3 ?hg (N:=21) ?hd (xs:=([(-1)] : List Int)) (inner:=[.int .i64 (-1)]) (ok:=fun _=>True) (okp:=fun _=>True) ?hr ?hp (fun _ hk=>hk) trivial (Below.refl _ _) (Nat.le_refl _) (by simp) ?_;(case hd=>rfl);(case hg=>rfl);(case hr=>first|(go_simp;done)|(go_simp;rfl));(case hp=>exact (Reps.one (show Kd.M (Kd.int .i64) _ _ _ (-1) [.int .i64 (-1)] from rfl) (Reps.none _ _)))
                              intro v137 w23 ho24 hb hg_ hnew_
                              have HS0_:=z3 hb hHeld.1;have HS1_:=z3 hb hHeld.2;clear hg_ hnew_;(first|rw [← Ny136.out] at ho24|(simp only [Int.reduceToNat] at ho24;rw [← Ny136.out] at ho24))
                              replace HO_4:=zm (zHb (by exact HO_4.out) hb)
                              replace HO147:=zm (zHb (by exact HO147.out) hb)
                              have HO138:=zm (zZ (Kd.R_newM (M:=fun k_=>(w.heap.size ≤ k_)) ho24 (zJ (by with_reducible repeat first|exact HB.out|apply zA|apply zB|apply zC)) (fun k_ h_=>h_)) (zJ (by with_reducible repeat first|exact HB.out|apply zA|apply zB|apply zC)))
                              replace BK131:=zm (zL (by exact BK131.out) hb)
                              replace HB:=zm (zK (by with_reducible repeat first|exact HB.out|apply zA|apply zB|apply zC) hb)
                              clear hb ho24;refine hK.out _ _ ⟨HS0_,HS1_⟩ (fun hHeld=>?_)
                              clear hK K;refine norm_ (a':=?_) ?_ ?_
                              rotate_left
                              ·show Act.put _ (some 21) _ = _
                               simp only [Act.put,u0,u1,u2,i64_w,i32_w]
                               rfl
                              exact norm_ (by simp only [putAll,Act.put,u0,u1,u2];try rfl) (hJ0_13 (v137,v146) _ ⟨hHeld,(by exact zS HO138.out (fun _ hk=>hk.1)),(by exact HO147.out),(by exact HO_4.out),(by exact BK131.out),(by with_reducible repeat first|exact HB.out|apply zA|apply zB|apply zC)⟩)
                             ·skip
                              refine goes_ Try.func51 (by kernel_rfl) rfl #[.string (rdOf ByteArray.empty t132 (ji12))] (by rfl) rfl rfl (by (try simp only [List.map_toArray,List.map_cons,List.map_nil]);first|done|(simp only [hji12];rfl)|rfl|(simp only [List.length_drop,List.length_take];rfl)) ?_
                              with_reducible refine (spec_l4num.calls kj2 (rdOf ByteArray.empty t132 (ji12)) t140 _ A15.out).mono ?_
                              rintro e w23 ⟨rfl,hb⟩
                              have HS0_:=z3 hb hHeld.1;have HS1_:=z3 hb hHeld.2;refine ⟨_,rfl,?_⟩
                              replace HO_4:=zm (zHb (by exact HO_4.out) hb)
                              replace HO147:=zm (zHb (by exact HO147.out) hb)
                              replace BK131:=zm (zL (by exact BK131.out) hb)
                              replace HB:=zm (zK (by with_reducible repeat first|exact HB.out|apply zA|apply zB|apply zC) hb)
                              (try clear hb);(try clear hb2);(try clear hk);(try clear hi);refine hK.out _ _ ⟨HS0_,HS1_⟩ (fun hHeld=>?_)
                              clear hK K;refine norm_ (a':=?_) ?_ ?_
                              rotate_left
                              ·show Act.put _ (some 28) _ = _
                               simp only [Act.put,u0,u1,u2,i64_w,i32_w]
                               rfl
                              exact norm_ (by simp only [putAll,Act.put,u0,u1,u2];try rfl) (hJ7_13 (v146) _ ⟨hHeld,(by exact HO147.out),(by exact HO_4.out),(by exact BK131.out),(by with_reducible repeat first|exact HB.out|apply zA|apply zB|apply zC)⟩)
                             ·skip
                              refine box_step ?hg (N:=5) ?hd (cs:=#[.slice none 0 0,.slice none 0 0,.slice none 0 0,.slice none 0 0]) (t:=30) ?hr ?_;(case hd=>rfl);(case hg=>rfl);(case hr=>first|(go_simp;done)|(go_simp;rfl))
                              intro gb148 hg w23 hbox hb
                              have HS0_:=z3 hb hHeld.1;have HS1_:=z3 hb hHeld.2;have n0_:=zm (zHb (by exact HO_4.out) hb)
                              have n1_:=zm (zHb (by exact HO147.out) hb)
                              have n2_:=zm (zL (by exact BK131.out) hb)
                              have n3_:=zm (zK (by with_reducible repeat first|exact HB.out|apply zA|apply zB|apply zC) hb)
                              have n4_:=zm (hbox);have n5_:=zm ((by rw [hg];exact (zJ (by with_reducible repeat first|exact HB.out|apply zA|apply zB|apply zC)) : w.heap.size ≤ gb148))
                              have n6_:=zm ((by rw [hg];exact (zJ (by with_reducible repeat first|exact HB.out|apply zA|apply zB|apply zC)) : w.heap.size ≤ gb148))
                              have n7_:=zm ((by rw [hg];exact Nat.ne_of_lt (blk_lt (by exact BK131.out)) : gb131 ≠ gb148))
                              have n8_:=zm ((by rw [hg];exact Nat.ne_of_gt (blk_lt (by exact BK131.out)) : gb148 ≠ gb131))
                              clear HO_4 HO147 BK131 HB;have HO_4:=n0_;have HO147:=n1_;have BK131:=n2_;have HB:=n3_;have BK148:=n4_;have GW148:=n5_;have GE148:=n6_;have NB131_148:=n7_;have NB148_131:=n8_;clear n0_ n1_ n2_ n3_ n4_ n5_ n6_ n7_ n8_;clear hb hbox hg;refine hK.out _ _ ⟨HS0_,HS1_⟩ (fun hHeld=>?_)
                              clear hK K;refine norm_ (a':=?_) ?_ ?_
                              rotate_left
                              ·show Act.put _ (some 5) _ = _
                               simp only [Act.put,u0,u1,u2,i64_w,i32_w]
                               rfl
                              exact norm_ (by simp only [putAll,Act.put,u0,u1,u2];try rfl) (hJ13_15 (v146,gb148) _ ⟨hHeld,(by exact HO147.out),(by exact HO_4.out),(by exact BK131.out),(by exact BK148.out),GW148.out,GE148.out,NB131_148.out,NB148_131.out,(by with_reducible repeat first|exact HB.out|apply zA|apply zB|apply zC)⟩)
                           ·skip
                            rintro _ w21 ⟨hS_,h0_,h1_,h2_⟩
                            replace HO_4 : Aside0 (Kd.R Kd.string 9 w21 w.heap.size (fun k_=>(w.heap.size ≤ k_)) (.slice (some ad139) t132.length co19) t132):=⟨h0_⟩
                            replace BK131 : Aside0 (w21.heap[gb131]? = some o4):=⟨h1_⟩;replace HB : Aside0 (Below w.heap.size w w21):=⟨h2_⟩;clear h0_ h1_ h2_;have hHeld : w21.cell? (ad139.add ((ji12)).toNat) = some (.string (rdOf ByteArray.empty t132 (ji12)))∧w21.cell? ad139 = some (.string (rdOf ByteArray.empty t132 0)):=hS_;refine norm_ (a':=?_) ?_ ?_
                            rotate_left
                            ·simp only [putAll,Act.put,u0,u1,u2]
                             rfl
                            refine four_ (i:=0) (j:=8) (k:=13) (m:=15) (Ni:=some 21) (Nj:=some 29) (Nk:=some 34) (Nm:=some 5) #[y',y',y',y',y',y',y',y',n',y',y',y',y',n',n',n',n'] #[n',y',y',y',y',y',y',y',y',y',y',y',y',n',n',n',n'] #[n',y',y',y',y',y',y',y',n',y',y',y',y',y',n',n',n'] #[n',y',y',y',y',y',y',y',n',y',y',y',y',n',n',y',n'] rfl rfl rfl rfl rfl rfl rfl rfl (four_of HT_.out (by kernel_rfl)) (by decide) (by decide) (by decide) (by decide) (fun K hK=>?_) (fun K hK=>?_) (fun K hK=>?_) (fun K hK=>?_)
                            ·skip
                             refine Kd.R_lit_step (Kd.int .i64) _ 3 ?hg (N:=21) ?hd (xs:=([(-1)] : List Int)) (inner:=[.int .i64 (-1)]) (ok:=fun _=>True) (okp:=fun _=>True) ?hr ?hp (fun _ hk=>hk) trivial (Below.refl _ _) (Nat.le_refl _) (by simp) ?_;(case hd=>rfl);(case hg=>rfl);(case hr=>first|(go_simp;done)|(go_simp;rfl));(case hp=>exact (Reps.one (show Kd.M (Kd.int .i64) _ _ _ (-1) [.int .i64 (-1)] from rfl) (Reps.none _ _)))
                             intro v137 w22 ho23 hb hg_ hnew_
                             have HS0_:=z3 hb hHeld.1;have HS1_:=z3 hb hHeld.2;clear hg_ hnew_;(first|rw [← Ny136.out] at ho23|(simp only [Int.reduceToNat] at ho23;rw [← Ny136.out] at ho23))
                             replace HO_4:=zm (zHb (by exact HO_4.out) hb)
                             have HO138:=zm (zZ (Kd.R_newM (M:=fun k_=>(w.heap.size ≤ k_)) ho23 (zJ (by with_reducible repeat first|exact HB.out|apply zA|apply zB|apply zC)) (fun k_ h_=>h_)) (zJ (by with_reducible repeat first|exact HB.out|apply zA|apply zB|apply zC)))
                             replace BK131:=zm (zL (by exact BK131.out) hb)
                             replace HB:=zm (zK (by with_reducible repeat first|exact HB.out|apply zA|apply zB|apply zC) hb)
                             clear hb ho23;refine hK.out _ _ ⟨HS0_,HS1_⟩ (fun hHeld=>?_)
                             clear hK K;refine norm_ (a':=?_) ?_ ?_
                             rotate_left
                             ·show Act.put _ (some 21) _ = _
                              simp only [Act.put,u0,u1,u2,i64_w,i32_w]
                              rfl
                             exact norm_ (by simp only [putAll,Act.put,u0,u1,u2];try rfl) (hJ0_7 (v137) _ ⟨hHeld,(by exact zS HO138.out (fun _ hk=>hk.1)),(by exact HO_4.out),(by exact BK131.out),(by with_reducible repeat first|exact HB.out|apply zA|apply zB|apply zC)⟩)
                            ·skip
                             refine Kd.R_lit_step (Kd.int .i64) _ 3 ?hg (N:=29) ?hd (xs:=([t140] : List Int)) (inner:=[.int .i64 t140]) (ok:=fun _=>True) (okp:=fun _=>True) ?hr ?hp (fun _ hk=>hk) trivial (Below.refl _ _) (Nat.le_refl _) (by simp) ?_;(case hd=>rfl);(case hg=>rfl);(case hr=>first|(go_simp;done)|(go_simp;rfl));(case hp=>exact (Reps.one (show Kd.M (Kd.int .i64) _ _ _ t140 [.int .i64 t140] from rfl) (Reps.none _ _)))
                             intro v142 w22 ho23 hb hg_ hnew_
                             have HS0_:=z3 hb hHeld.1;have HS1_:=z3 hb hHeld.2;clear hg_ hnew_;(first|rw [← Ny141.out] at ho23|(simp only [Int.reduceToNat] at ho23;rw [← Ny141.out] at ho23))
                             replace HO_4:=zm (zHb (by exact HO_4.out) hb)
                             have HO143:=zm (zZ (Kd.R_newM (M:=fun k_=>(w.heap.size ≤ k_)) ho23 (zJ (by with_reducible repeat first|exact HB.out|apply zA|apply zB|apply zC)) (fun k_ h_=>h_)) (zJ (by with_reducible repeat first|exact HB.out|apply zA|apply zB|apply zC)))
                             replace BK131:=zm (zL (by exact BK131.out) hb)
                             replace HB:=zm (zK (by with_reducible repeat first|exact HB.out|apply zA|apply zB|apply zC) hb)
                             clear hb ho23;refine hK.out _ _ ⟨HS0_,HS1_⟩ (fun hHeld=>?_)
                             clear hK K;refine norm_ (a':=?_) ?_ ?_
                             rotate_left
                             ·show Act.put _ (some 29) _ = _
                              simp only [Act.put,u0,u1,u2,i64_w,i32_w]
                              rfl
                             exact norm_ (by simp only [putAll,Act.put,u0,u1,u2];try rfl) (hJ7_8 (v142) _ ⟨hHeld,(by exact zS HO143.out (fun _ hk=>hk.1)),(by exact HO_4.out),(by exact BK131.out),(by with_reducible repeat first|exact HB.out|apply zA|apply zB|apply zC)⟩)
                            ·skip
                             refine Kd.R_lit_step Kd.bool _ 4 ?hg (N:=34) ?hd (xs:=([((rdOf ByteArray.empty t132 0).toList == ([111,112,101,110] : List UInt8))] : List Bool)) (inner:=[.bool ((rdOf ByteArray.empty t132 0).toList == ([111,112,101,110] : List UInt8))]) (ok:=fun _=>True) (okp:=fun _=>True) ?hr ?hp (fun _ hk=>hk) trivial (Below.refl _ _) (Nat.le_refl _) (by simp) ?_;(case hd=>rfl);(case hg=>rfl);(case hr=>first|(go_simp;done)|(go_simp;rfl));(case hp=>exact (Reps.one (show Kd.M Kd.bool _ _ _ ((rdOf ByteArray.empty t132 0).toList == ([111,112,101,110] : List UInt8)) [.bool ((rdOf ByteArray.empty t132 0).toList == ([111,112,101,110] : List UInt8))] from rfl) (Reps.none _ _)))
                             intro v146 w22 ho23 hb hg_ hnew_
                             have HS0_:=z3 hb hHeld.1;have HS1_:=z3 hb hHeld.2;clear hg_ hnew_;(first|rw [← Ny145.out] at ho23|(simp only [Int.reduceToNat] at ho23;rw [← Ny145.out] at ho23))
                             replace HO_4:=zm (zHb (by exact HO_4.out) hb)
                             have HO147:=zm (zZ (Kd.R_newM (M:=fun k_=>(w.heap.size ≤ k_)) ho23 (zJ (by with_reducible repeat first|exact HB.out|apply zA|apply zB|apply zC)) (fun k_ h_=>h_)) (zJ (by with_reducible repeat first|exact HB.out|apply zA|apply zB|apply zC)))
                             replace BK131:=zm (zL (by exact BK131.out) hb)
                             replace HB:=zm (zK (by with_reducible repeat first|exact HB.out|apply zA|apply zB|apply zC) hb)
                             clear hb ho23;refine hK.out _ _ ⟨HS0_,HS1_⟩ (fun hHeld=>?_)
                             clear hK K;refine norm_ (a':=?_) ?_ ?_
                             rotate_left
                             ·show Act.put _ (some 34) _ = _
                              simp only [Act.put,u0,u1,u2,i64_w,i32_w]
                              rfl
                             exact norm_ (by simp only [putAll,Act.put,u0,u1,u2];try rfl) (hJ7_13 (v146) _ ⟨hHeld,(by exact zS HO147.out (fun _ hk=>hk.1)),(by exact HO_4.out),(by exact BK131.out),(by with_reducible repeat first|exact HB.out|apply zA|apply zB|apply zC)⟩)
                            ·skip
                             refine box_step ?hg (N:=5) ?hd (cs:=#[.slice none 0 0,.slice none 0 0,.slice none 0 0,.slice none 0 0]) (t:=30) ?hr ?_;(case hd=>rfl);(case hg=>rfl);(case hr=>first|(go_simp;done)|(go_simp;rfl))
                             intro gb148 hg w22 hbox hb
                             have HS0_:=z3 hb hHeld.1;have HS1_:=z3 hb hHeld.2;have n0_:=zm (zHb (by exact HO_4.out) hb)
                             have n1_:=zm (zL (by exact BK131.out) hb)
                             have n2_:=zm (zK (by with_reducible repeat first|exact HB.out|apply zA|apply zB|apply zC) hb)
                             have n3_:=zm (hbox);have n4_:=zm ((by rw [hg];exact (zJ (by with_reducible repeat first|exact HB.out|apply zA|apply zB|apply zC)) : w.heap.size ≤ gb148))
                             have n5_:=zm ((by rw [hg];exact (zJ (by with_reducible repeat first|exact HB.out|apply zA|apply zB|apply zC)) : w.heap.size ≤ gb148))
                             have n6_:=zm ((by rw [hg];exact Nat.ne_of_lt (blk_lt (by exact BK131.out)) : gb131 ≠ gb148))
                             have n7_:=zm ((by rw [hg];exact Nat.ne_of_gt (blk_lt (by exact BK131.out)) : gb148 ≠ gb131))
                             clear HO_4 BK131 HB;have HO_4:=n0_;have BK131:=n1_;have HB:=n2_;have BK148:=n3_;have GW148:=n4_;have GE148:=n5_;have NB131_148:=n6_;have NB148_131:=n7_;clear n0_ n1_ n2_ n3_ n4_ n5_ n6_ n7_;clear hb hbox hg;refine hK.out _ _ ⟨HS0_,HS1_⟩ (fun hHeld=>?_)
                             clear hK K;refine norm_ (a':=?_) ?_ ?_
                             rotate_left
                             ·show Act.put _ (some 5) _ = _
                              simp only [Act.put,u0,u1,u2,i64_w,i32_w]
                              rfl
                             exact norm_ (by simp only [putAll,Act.put,u0,u1,u2];try rfl) (hJ7_15 (gb148) _ ⟨hHeld,(by exact HO_4.out),(by exact BK131.out),(by exact BK148.out),GW148.out,GE148.out,NB131_148.out,NB148_131.out,(by with_reducible repeat first|exact HB.out|apply zA|apply zB|apply zC)⟩)
                          ·skip
                           rintro v137 w22 ⟨hS_,h0_,h1_,h2_,h3_⟩
                           have HO138 : Aside0 (Kd.R (Kd.int .i64) 3 w22 w.heap.size (fun k_=>(w.heap.size ≤ k_)) v137 y136):=⟨h0_⟩
                           replace HO_4 : Aside0 (Kd.R Kd.string 9 w22 w.heap.size (fun k_=>(w.heap.size ≤ k_)) (.slice (some ad139) t132.length co19) t132):=⟨h1_⟩
                           replace BK131 : Aside0 (w22.heap[gb131]? = some o4):=⟨h2_⟩;replace HB : Aside0 (Below w.heap.size w w22):=⟨h3_⟩;clear h0_ h1_ h2_ h3_;have hHeld : w22.cell? (ad139.add ((ji12)).toNat) = some (.string (rdOf ByteArray.empty t132 (ji12)))∧w22.cell? ad139 = some (.string (rdOf ByteArray.empty t132 0)):=hS_;refine norm_ (a':=?_) ?_ ?_
                           rotate_left
                           ·simp only [putAll,Act.put,u0,u1,u2]
                            rfl
                           refine three_ (i:=7) (j:=13) (k:=15) (Ni:=some 28) (Nj:=some 34) (Nk:=some 5) #[y',y',y',y',y',y',y',y',n',y',y',y',y',n',n',n',n'] #[y',y',y',y',y',y',y',n',n',y',y',y',y',y',n',n',n'] #[y',y',y',y',y',y',y',n',n',y',y',y',y',n',n',y',n'] rfl rfl rfl rfl rfl rfl (three_of HT_.out (by kernel_rfl)) (by decide) (by decide) (by decide) (fun K hK=>?_) (fun K hK=>?_) (fun K hK=>?_)
                           ·skip
                            refine goes_ Try.func51 (by kernel_rfl) rfl #[.string (rdOf ByteArray.empty t132 (ji12))] (by rfl) rfl rfl (by (try simp only [List.map_toArray,List.map_cons,List.map_nil]);first|done|(simp only [hji12];rfl)|rfl|(simp only [List.length_drop,List.length_take];rfl)) ?_
                            with_reducible refine (spec_l4num.calls kj2 (rdOf ByteArray.empty t132 (ji12)) t140 _ A15.out).mono ?_
                            rintro e w23 ⟨rfl,hb⟩
                            have HS0_:=z3 hb hHeld.1;have HS1_:=z3 hb hHeld.2;refine ⟨_,rfl,?_⟩
                            replace HO_4:=zm (zHb (by exact HO_4.out) hb)
                            replace HO138:=zm (zHb (by exact HO138.out) hb)
                            replace BK131:=zm (zL (by exact BK131.out) hb)
                            replace HB:=zm (zK (by with_reducible repeat first|exact HB.out|apply zA|apply zB|apply zC) hb)
                            (try clear hb);(try clear hb2);(try clear hk);(try clear hi);refine hK.out _ _ ⟨HS0_,HS1_⟩ (fun hHeld=>?_)
                            clear hK K;refine norm_ (a':=?_) ?_ ?_
                            rotate_left
                            ·show Act.put _ (some 28) _ = _
                             simp only [Act.put,u0,u1,u2,i64_w,i32_w]
                             rfl
                            exact norm_ (by simp only [putAll,Act.put,u0,u1,u2];try rfl) (hJ0_7 (v137) _ ⟨hHeld,(by exact HO138.out),(by exact HO_4.out),(by exact BK131.out),(by with_reducible repeat first|exact HB.out|apply zA|apply zB|apply zC)⟩)
                           ·skip
                            refine Kd.R_lit_step Kd.bool _ 4 ?hg (N:=34) ?hd (xs:=([((rdOf ByteArray.empty t132 0).toList == ([111,112,101,110] : List UInt8))] : List Bool)) (inner:=[.bool ((rdOf ByteArray.empty t132 0).toList == ([111,112,101,110] : List UInt8))]) (ok:=fun _=>True) (okp:=fun _=>True) ?hr ?hp (fun _ hk=>hk) trivial (Below.refl _ _) (Nat.le_refl _) (by simp) ?_;(case hd=>rfl);(case hg=>rfl);(case hr=>first|(go_simp;done)|(go_simp;rfl));(case hp=>exact (Reps.one (show Kd.M Kd.bool _ _ _ ((rdOf ByteArray.empty t132 0).toList == ([111,112,101,110] : List UInt8)) [.bool ((rdOf ByteArray.empty t132 0).toList == ([111,112,101,110] : List UInt8))] from rfl) (Reps.none _ _)))
                            intro v146 w23 ho24 hb hg_ hnew_
                            have HS0_:=z3 hb hHeld.1;have HS1_:=z3 hb hHeld.2;clear hg_ hnew_;(first|rw [← Ny145.out] at ho24|(simp only [Int.reduceToNat] at ho24;rw [← Ny145.out] at ho24))
                            replace HO_4:=zm (zHb (by exact HO_4.out) hb)
                            replace HO138:=zm (zHb (by exact HO138.out) hb)
                            have HO147:=zm (zZ (Kd.R_newM (M:=fun k_=>(w.heap.size ≤ k_)) ho24 (zJ (by with_reducible repeat first|exact HB.out|apply zA|apply zB|apply zC)) (fun k_ h_=>h_)) (zJ (by with_reducible repeat first|exact HB.out|apply zA|apply zB|apply zC)))
                            replace BK131:=zm (zL (by exact BK131.out) hb)
                            replace HB:=zm (zK (by with_reducible repeat first|exact HB.out|apply zA|apply zB|apply zC) hb)
                            clear hb ho24;refine hK.out _ _ ⟨HS0_,HS1_⟩ (fun hHeld=>?_)
                            clear hK K;refine norm_ (a':=?_) ?_ ?_
                            rotate_left
                            ·show Act.put _ (some 34) _ = _
                             simp only [Act.put,u0,u1,u2,i64_w,i32_w]
                             rfl
                            exact norm_ (by simp only [putAll,Act.put,u0,u1,u2];try rfl) (hJ0_13 (v137,v146) _ ⟨hHeld,(by exact HO138.out),(by exact zS HO147.out (fun _ hk=>hk.1)),(by exact HO_4.out),(by exact BK131.out),(by with_reducible repeat first|exact HB.out|apply zA|apply zB|apply zC)⟩)
                           ·skip
                            refine box_step ?hg (N:=5) ?hd (cs:=#[.slice none 0 0,.slice none 0 0,.slice none 0 0,.slice none 0 0]) (t:=30) ?hr ?_;(case hd=>rfl);(case hg=>rfl);(case hr=>first|(go_simp;done)|(go_simp;rfl))
                            intro gb148 hg w23 hbox hb
                            have HS0_:=z3 hb hHeld.1;have HS1_:=z3 hb hHeld.2;have n0_:=zm (zHb (by exact HO_4.out) hb)
                            have n1_:=zm (zHb (by exact HO138.out) hb)
                            have n2_:=zm (zL (by exact BK131.out) hb)
                            have n3_:=zm (zK (by with_reducible repeat first|exact HB.out|apply zA|apply zB|apply zC) hb)
                            have n4_:=zm (hbox);have n5_:=zm ((by rw [hg];exact (zJ (by with_reducible repeat first|exact HB.out|apply zA|apply zB|apply zC)) : w.heap.size ≤ gb148))
                            have n6_:=zm ((by rw [hg];exact (zJ (by with_reducible repeat first|exact HB.out|apply zA|apply zB|apply zC)) : w.heap.size ≤ gb148))
                            have n7_:=zm ((by rw [hg];exact Nat.ne_of_lt (blk_lt (by exact BK131.out)) : gb131 ≠ gb148))
                            have n8_:=zm ((by rw [hg];exact Nat.ne_of_gt (blk_lt (by exact BK131.out)) : gb148 ≠ gb131))
                            clear HO_4 HO138 BK131 HB;have HO_4:=n0_;have HO138:=n1_;have BK131:=n2_;have HB:=n3_;have BK148:=n4_;have GW148:=n5_;have GE148:=n6_;have NB131_148:=n7_;have NB148_131:=n8_;clear n0_ n1_ n2_ n3_ n4_ n5_ n6_ n7_ n8_;clear hb hbox hg;refine hK.out _ _ ⟨HS0_,HS1_⟩ (fun hHeld=>?_)
                            clear hK K;refine norm_ (a':=?_) ?_ ?_
                            rotate_left
                            ·show Act.put _ (some 5) _ = _
                             simp only [Act.put,u0,u1,u2,i64_w,i32_w]
                             rfl
                            exact norm_ (by simp only [putAll,Act.put,u0,u1,u2];try rfl) (hJ0_15 (v137,gb148) _ ⟨hHeld,(by exact HO138.out),(by exact HO_4.out),(by exact BK131.out),(by exact BK148.out),GW148.out,GE148.out,NB131_148.out,NB148_131.out,(by with_reducible repeat first|exact HB.out|apply zA|apply zB|apply zC)⟩)
                         ·skip
                          rintro ⟨v146,gb148⟩ w23 ⟨hS_,h0_,h1_,h2_,h3_,h4_,h5_,h6_,h7_,h8_⟩
                          have HO147 : Aside0 (Kd.R Kd.bool 4 w23 w.heap.size (fun k_=>(w.heap.size ≤ k_)) v146 y145):=⟨h0_⟩
                          replace HO_4 : Aside0 (Kd.R Kd.string 9 w23 w.heap.size (fun k_=>(w.heap.size ≤ k_)) (.slice (some ad139) t132.length co19) t132):=⟨h1_⟩
                          replace BK131 : Aside0 (w23.heap[gb131]? = some o4):=⟨h2_⟩;have BK148 : Aside0 (w23.heap[gb148]? = some o4):=⟨h3_⟩;have GW148 : Aside0 (w.heap.size ≤ gb148):=⟨h4_⟩;have GE148 : Aside0 (w.heap.size ≤ gb148):=⟨h5_⟩;have NB131_148 : Aside0 (gb131 ≠ gb148):=⟨h6_⟩;have NB148_131 : Aside0 (gb148 ≠ gb131):=⟨h7_⟩;replace HB : Aside0 (Below w.heap.size w w23):=⟨h8_⟩;clear h0_ h1_ h2_ h3_ h4_ h5_ h6_ h7_ h8_;have hHeld : w23.cell? (ad139.add ((ji12)).toNat) = some (.string (rdOf ByteArray.empty t132 (ji12)))∧w23.cell? ad139 = some (.string (rdOf ByteArray.empty t132 0)):=hS_;refine norm_ (a':=?_) ?_ ?_
                          rotate_left
                          ·simp only [putAll,Act.put,u0,u1,u2]
                           rfl
                          refine two_ (i:=0) (j:=7) (Ni:=some 21) (Nj:=some 28) #[y',y',y',y',y',y',y',n',n',y',y',y',y',y',n',y',n'] #[n',y',y',y',y',y',y',y',n',y',y',y',y',y',n',y',n'] rfl rfl rfl rfl (two_of HT_.out (by kernel_rfl)) (by decide) (by decide) (fun K hK=>?_) (fun K hK=>?_)
                          ·skip
                           refine Kd.R_lit_step (Kd.int .i64) _ 3 ?hg (N:=21) ?hd (xs:=([(-1)] : List Int)) (inner:=[.int .i64 (-1)]) (ok:=fun _=>True) (okp:=fun _=>True) ?hr ?hp (fun _ hk=>hk) trivial (Below.refl _ _) (Nat.le_refl _) (by simp) ?_;(case hd=>rfl);(case hg=>rfl);(case hr=>first|(go_simp;done)|(go_simp;rfl));(case hp=>exact (Reps.one (show Kd.M (Kd.int .i64) _ _ _ (-1) [.int .i64 (-1)] from rfl) (Reps.none _ _)))
                           intro v137 w24 ho25 hb hg_ hnew_
                           have HS0_:=z3 hb hHeld.1;have HS1_:=z3 hb hHeld.2;clear hg_ hnew_;(first|rw [← Ny136.out] at ho25|(simp only [Int.reduceToNat] at ho25;rw [← Ny136.out] at ho25))
                           replace HO_4:=zm (zHb (by exact HO_4.out) hb)
                           replace HO147:=zm (zHb (by exact HO147.out) hb)
                           have HO138:=zm (zZ (Kd.R_newM (M:=fun k_=>(w.heap.size ≤ k_)) ho25 (zJ (by with_reducible repeat first|exact HB.out|apply zA|apply zB|apply zC)) (fun k_ h_=>h_)) (zJ (by with_reducible repeat first|exact HB.out|apply zA|apply zB|apply zC)))
                           replace BK131:=zm (zL (by exact BK131.out) hb)
                           replace BK148:=zm (zL (by exact BK148.out) hb)
                           replace HB:=zm (zK (by with_reducible repeat first|exact HB.out|apply zA|apply zB|apply zC) hb)
                           clear hb ho25;refine hK.out _ _ ⟨HS0_,HS1_⟩ (fun hHeld=>?_)
                           clear hK K;refine norm_ (a':=?_) ?_ ?_
                           rotate_left
                           ·show Act.put _ (some 21) _ = _
                            simp only [Act.put,u0,u1,u2,i64_w,i32_w]
                            rfl
                           exact norm_ (by simp only [putAll,Act.put,u0,u1,u2];try rfl) (hJ0_13_15 (v137,v146,gb148) _ ⟨hHeld,(by exact zS HO138.out (fun _ hk=>hk.1)),(by exact HO147.out),(by exact HO_4.out),(by exact BK131.out),(by exact BK148.out),GW148.out,GE148.out,NB131_148.out,NB148_131.out,(by with_reducible repeat first|exact HB.out|apply zA|apply zB|apply zC)⟩)
                          ·skip
                           refine goes_ Try.func51 (by kernel_rfl) rfl #[.string (rdOf ByteArray.empty t132 (ji12))] (by rfl) rfl rfl (by (try simp only [List.map_toArray,List.map_cons,List.map_nil]);first|done|(simp only [hji12];rfl)|rfl|(simp only [List.length_drop,List.length_take];rfl)) ?_
                           with_reducible refine (spec_l4num.calls kj2 (rdOf ByteArray.empty t132 (ji12)) t140 _ A15.out).mono ?_
                           rintro e w24 ⟨rfl,hb⟩
                           have HS0_:=z3 hb hHeld.1;have HS1_:=z3 hb hHeld.2;refine ⟨_,rfl,?_⟩
                           replace HO_4:=zm (zHb (by exact HO_4.out) hb)
                           replace HO147:=zm (zHb (by exact HO147.out) hb)
                           replace BK131:=zm (zL (by exact BK131.out) hb)
                           replace BK148:=zm (zL (by exact BK148.out) hb)
                           replace HB:=zm (zK (by with_reducible repeat first|exact HB.out|apply zA|apply zB|apply zC) hb)
                           (try clear hb);(try clear hb2);(try clear hk);(try clear hi);refine hK.out _ _ ⟨HS0_,HS1_⟩ (fun hHeld=>?_)
                           clear hK K;refine norm_ (a':=?_) ?_ ?_
                           rotate_left
                           ·show Act.put _ (some 28) _ = _
                            simp only [Act.put,u0,u1,u2,i64_w,i32_w]
                            rfl
                           exact norm_ (by simp only [putAll,Act.put,u0,u1,u2];try rfl) (hJ7_13_15 (v146,gb148) _ ⟨hHeld,(by exact HO147.out),(by exact HO_4.out),(by exact BK131.out),(by exact BK148.out),GW148.out,GE148.out,NB131_148.out,NB148_131.out,(by with_reducible repeat first|exact HB.out|apply zA|apply zB|apply zC)⟩)
                        ·skip
                         rintro gb148 w22 ⟨hS_,h0_,h1_,h2_,h3_,h4_,h5_,h6_,h7_⟩
                         replace HO_4 : Aside0 (Kd.R Kd.string 9 w22 w.heap.size (fun k_=>(w.heap.size ≤ k_)) (.slice (some ad139) t132.length co19) t132):=⟨h0_⟩
                         replace BK131 : Aside0 (w22.heap[gb131]? = some o4):=⟨h1_⟩;have BK148 : Aside0 (w22.heap[gb148]? = some o4):=⟨h2_⟩;have GW148 : Aside0 (w.heap.size ≤ gb148):=⟨h3_⟩;have GE148 : Aside0 (w.heap.size ≤ gb148):=⟨h4_⟩;have NB131_148 : Aside0 (gb131 ≠ gb148):=⟨h5_⟩;have NB148_131 : Aside0 (gb148 ≠ gb131):=⟨h6_⟩;replace HB : Aside0 (Below w.heap.size w w22):=⟨h7_⟩;clear h0_ h1_ h2_ h3_ h4_ h5_ h6_ h7_;have hHeld : w22.cell? (ad139.add ((ji12)).toNat) = some (.string (rdOf ByteArray.empty t132 (ji12)))∧w22.cell? ad139 = some (.string (rdOf ByteArray.empty t132 0)):=hS_;refine norm_ (a':=?_) ?_ ?_
                         rotate_left
                         ·simp only [putAll,Act.put,u0,u1,u2]
                          rfl
                         refine three_ (i:=0) (j:=8) (k:=13) (Ni:=some 21) (Nj:=some 29) (Nk:=some 34) #[y',y',y',y',y',y',y',y',n',y',y',y',y',n',n',y',n'] #[n',y',y',y',y',y',y',y',y',y',y',y',y',n',n',y',n'] #[n',y',y',y',y',y',y',y',n',y',y',y',y',y',n',y',n'] rfl rfl rfl rfl rfl rfl (three_of HT_.out (by kernel_rfl)) (by decide) (by decide) (by decide) (fun K hK=>?_) (fun K hK=>?_) (fun K hK=>?_)
                         ·skip
                          refine Kd.R_lit_step (Kd.int .i64) _ 3 ?hg (N:=21) ?hd (xs:=([(-1)] : List Int)) (inner:=[.int .i64 (-1)]) (ok:=fun _=>True) (okp:=fun _=>True) ?hr ?hp (fun _ hk=>hk) trivial (Below.refl _ _) (Nat.le_refl _) (by simp) ?_;(case hd=>rfl);(case hg=>rfl);(case hr=>first|(go_simp;done)|(go_simp;rfl));(case hp=>exact (Reps.one (show Kd.M (Kd.int .i64) _ _ _ (-1) [.int .i64 (-1)] from rfl) (Reps.none _ _)))
                          intro v137 w23 ho24 hb hg_ hnew_
                          have HS0_:=z3 hb hHeld.1;have HS1_:=z3 hb hHeld.2;clear hg_ hnew_;(first|rw [← Ny136.out] at ho24|(simp only [Int.reduceToNat] at ho24;rw [← Ny136.out] at ho24))
                          replace HO_4:=zm (zHb (by exact HO_4.out) hb)
                          have HO138:=zm (zZ (Kd.R_newM (M:=fun k_=>(w.heap.size ≤ k_)) ho24 (zJ (by with_reducible repeat first|exact HB.out|apply zA|apply zB|apply zC)) (fun k_ h_=>h_)) (zJ (by with_reducible repeat first|exact HB.out|apply zA|apply zB|apply zC)))
                          replace BK131:=zm (zL (by exact BK131.out) hb)
                          replace BK148:=zm (zL (by exact BK148.out) hb)
                          replace HB:=zm (zK (by with_reducible repeat first|exact HB.out|apply zA|apply zB|apply zC) hb)
                          clear hb ho24;refine hK.out _ _ ⟨HS0_,HS1_⟩ (fun hHeld=>?_)
                          clear hK K;refine norm_ (a':=?_) ?_ ?_
                          rotate_left
                          ·show Act.put _ (some 21) _ = _
                           simp only [Act.put,u0,u1,u2,i64_w,i32_w]
                           rfl
                          exact norm_ (by simp only [putAll,Act.put,u0,u1,u2];try rfl) (hJ0_7_15 (v137,gb148) _ ⟨hHeld,(by exact zS HO138.out (fun _ hk=>hk.1)),(by exact HO_4.out),(by exact BK131.out),(by exact BK148.out),GW148.out,GE148.out,NB131_148.out,NB148_131.out,(by with_reducible repeat first|exact HB.out|apply zA|apply zB|apply zC)⟩)
                         ·skip
                          refine Kd.R_lit_step (Kd.int .i64) _ 3 ?hg (N:=29) ?hd (xs:=([t140] : List Int)) (inner:=[.int .i64 t140]) (ok:=fun _=>True) (okp:=fun _=>True) ?hr ?hp (fun _ hk=>hk) trivial (Below.refl _ _) (Nat.le_refl _) (by simp) ?_;(case hd=>rfl);(case hg=>rfl);(case hr=>first|(go_simp;done)|(go_simp;rfl));(case hp=>exact (Reps.one (show Kd.M (Kd.int .i64) _ _ _ t140 [.int .i64 t140] from rfl) (Reps.none _ _)))
                          intro v142 w23 ho24 hb hg_ hnew_
                          have HS0_:=z3 hb hHeld.1;have HS1_:=z3 hb hHeld.2;clear hg_ hnew_;(first|rw [← Ny141.out] at ho24|(simp only [Int.reduceToNat] at ho24;rw [← Ny141.out] at ho24))
                          replace HO_4:=zm (zHb (by exact HO_4.out) hb)
                          have HO143:=zm (zZ (Kd.R_newM (M:=fun k_=>(w.heap.size ≤ k_)) ho24 (zJ (by with_reducible repeat first|exact HB.out|apply zA|apply zB|apply zC)) (fun k_ h_=>h_)) (zJ (by with_reducible repeat first|exact HB.out|apply zA|apply zB|apply zC)))
                          replace BK131:=zm (zL (by exact BK131.out) hb)
                          replace BK148:=zm (zL (by exact BK148.out) hb)
                          replace HB:=zm (zK (by with_reducible repeat first|exact HB.out|apply zA|apply zB|apply zC) hb)
                          clear hb ho24;refine hK.out _ _ ⟨HS0_,HS1_⟩ (fun hHeld=>?_)
                          clear hK K;refine norm_ (a':=?_) ?_ ?_
                          rotate_left
                          ·show Act.put _ (some 29) _ = _
                           simp only [Act.put,u0,u1,u2,i64_w,i32_w]
                           rfl
                          exact norm_ (by simp only [putAll,Act.put,u0,u1,u2];try rfl) (hJ7_8_15 (v142,gb148) _ ⟨hHeld,(by exact zS HO143.out (fun _ hk=>hk.1)),(by exact HO_4.out),(by exact BK131.out),(by exact BK148.out),GW148.out,GE148.out,NB131_148.out,NB148_131.out,(by with_reducible repeat first|exact HB.out|apply zA|apply zB|apply zC)⟩)
                         ·skip
                          refine Kd.R_lit_step Kd.bool _ 4 ?hg (N:=34) ?hd (xs:=([((rdOf ByteArray.empty t132 0).toList == ([111,112,101,110] : List UInt8))] : List Bool)) (inner:=[.bool ((rdOf ByteArray.empty t132 0).toList == ([111,112,101,110] : List UInt8))]) (ok:=fun _=>True) (okp:=fun _=>True) ?hr ?hp (fun _ hk=>hk) trivial (Below.refl _ _) (Nat.le_refl _) (by simp) ?_;(case hd=>rfl);(case hg=>rfl);(case hr=>first|(go_simp;done)|(go_simp;rfl));(case hp=>exact (Reps.one (show Kd.M Kd.bool _ _ _ ((rdOf ByteArray.empty t132 0).toList == ([111,112,101,110] : List UInt8)) [.bool ((rdOf ByteArray.empty t132 0).toList == ([111,112,101,110] : List UInt8))] from rfl) (Reps.none _ _)))
                          intro v146 w23 ho24 hb hg_ hnew_
                          have HS0_:=z3 hb hHeld.1;have HS1_:=z3 hb hHeld.2;clear hg_ hnew_;(first|rw [← Ny145.out] at ho24|(simp only [Int.reduceToNat] at ho24;rw [← Ny145.out] at ho24))
                          replace HO_4:=zm (zHb (by exact HO_4.out) hb)
                          have HO147:=zm (zZ (Kd.R_newM (M:=fun k_=>(w.heap.size ≤ k_)) ho24 (zJ (by with_reducible repeat first|exact HB.out|apply zA|apply zB|apply zC)) (fun k_ h_=>h_)) (zJ (by with_reducible repeat first|exact HB.out|apply zA|apply zB|apply zC)))
                          replace BK131:=zm (zL (by exact BK131.out) hb)
                          replace BK148:=zm (zL (by exact BK148.out) hb)
                          replace HB:=zm (zK (by with_reducible repeat first|exact HB.out|apply zA|apply zB|apply zC) hb)
                          clear hb ho24;refine hK.out _ _ ⟨HS0_,HS1_⟩ (fun hHeld=>?_)
                          clear hK K;refine norm_ (a':=?_) ?_ ?_
                          rotate_left
                          ·show Act.put _ (some 34) _ = _
                           simp only [Act.put,u0,u1,u2,i64_w,i32_w]
                           rfl
                          exact norm_ (by simp only [putAll,Act.put,u0,u1,u2];try rfl) (hJ7_13_15 (v146,gb148) _ ⟨hHeld,(by exact zS HO147.out (fun _ hk=>hk.1)),(by exact HO_4.out),(by exact BK131.out),(by exact BK148.out),GW148.out,GE148.out,NB131_148.out,NB148_131.out,(by with_reducible repeat first|exact HB.out|apply zA|apply zB|apply zC)⟩)
                       ·skip
                        rintro v146 w23 ⟨hS_,h0_,h1_,h2_,h3_⟩
                        have HO147 : Aside0 (Kd.R Kd.bool 4 w23 w.heap.size (fun k_=>(w.heap.size ≤ k_)) v146 y145):=⟨h0_⟩
                        replace HO_4 : Aside0 (Kd.R Kd.string 9 w23 w.heap.size (fun k_=>(w.heap.size ≤ k_)) (.slice (some ad139) t132.length co19) t132):=⟨h1_⟩
                        replace BK131 : Aside0 (w23.heap[gb131]? = some o4):=⟨h2_⟩;replace HB : Aside0 (Below w.heap.size w w23):=⟨h3_⟩;clear h0_ h1_ h2_ h3_;have hHeld : w23.cell? (ad139.add ((ji12)).toNat) = some (.string (rdOf ByteArray.empty t132 (ji12)))∧w23.cell? ad139 = some (.string (rdOf ByteArray.empty t132 0)):=hS_;refine norm_ (a':=?_) ?_ ?_
                        rotate_left
                        ·simp only [putAll,Act.put,u0,u1,u2]
                         rfl
                        refine three_ (i:=0) (j:=8) (k:=15) (Ni:=some 21) (Nj:=some 29) (Nk:=some 5) #[y',y',y',y',y',y',y',y',n',y',y',y',y',y',n',n',n'] #[n',y',y',y',y',y',y',y',y',y',y',y',y',y',n',n',n'] #[n',y',y',y',y',y',y',y',n',y',y',y',y',y',n',y',n'] rfl rfl rfl rfl rfl rfl (three_of HT_.out (by kernel_rfl)) (by decide) (by decide) (by decide) (fun K hK=>?_) (fun K hK=>?_) (fun K hK=>?_)
                        ·skip
                         refine Kd.R_lit_step (Kd.int .i64) _ 3 ?hg (N:=21) ?hd (xs:=([(-1)] : List Int)) (inner:=[.int .i64 (-1)]) (ok:=fun _=>True) (okp:=fun _=>True) ?hr ?hp (fun _ hk=>hk) trivial (Below.refl _ _) (Nat.le_refl _) (by simp) ?_;(case hd=>rfl);(case hg=>rfl);(case hr=>first|(go_simp;done)|(go_simp;rfl));(case hp=>exact (Reps.one (show Kd.M (Kd.int .i64) _ _ _ (-1) [.int .i64 (-1)] from rfl) (Reps.none _ _)))
                         intro v137 w24 ho25 hb hg_ hnew_
                         have HS0_:=z3 hb hHeld.1;have HS1_:=z3 hb hHeld.2;clear hg_ hnew_;(first|rw [← Ny136.out] at ho25|(simp only [Int.reduceToNat] at ho25;rw [← Ny136.out] at ho25))
                         replace HO_4:=zm (zHb (by exact HO_4.out) hb)
                         replace HO147:=zm (zHb (by exact HO147.out) hb)
                         have HO138:=zm (zZ (Kd.R_newM (M:=fun k_=>(w.heap.size ≤ k_)) ho25 (zJ (by with_reducible repeat first|exact HB.out|apply zA|apply zB|apply zC)) (fun k_ h_=>h_)) (zJ (by with_reducible repeat first|exact HB.out|apply zA|apply zB|apply zC)))
                         replace BK131:=zm (zL (by exact BK131.out) hb)
                         replace HB:=zm (zK (by with_reducible repeat first|exact HB.out|apply zA|apply zB|apply zC) hb)
                         clear hb ho25;refine hK.out _ _ ⟨HS0_,HS1_⟩ (fun hHeld=>?_)
                         clear hK K;refine norm_ (a':=?_) ?_ ?_
                         rotate_left
                         ·show Act.put _ (some 21) _ = _
                          simp only [Act.put,u0,u1,u2,i64_w,i32_w]
                          rfl
                         exact norm_ (by simp only [putAll,Act.put,u0,u1,u2];try rfl) (hJ0_7_13 (v137,v146) _ ⟨hHeld,(by exact zS HO138.out (fun _ hk=>hk.1)),(by exact HO147.out),(by exact HO_4.out),(by exact BK131.out),(by with_reducible repeat first|exact HB.out|apply zA|apply zB|apply zC)⟩)
                        ·skip
                         refine Kd.R_lit_step (Kd.int .i64) _ 3 ?hg (N:=29) ?hd (xs:=([t140] : List Int)) (inner:=[.int .i64 t140]) (ok:=fun _=>True) (okp:=fun _=>True) ?hr ?hp (fun _ hk=>hk) trivial (Below.refl _ _) (Nat.le_refl _) (by simp) ?_;(case hd=>rfl);(case hg=>rfl);(case hr=>first|(go_simp;done)|(go_simp;rfl));(case hp=>exact (Reps.one (show Kd.M (Kd.int .i64) _ _ _ t140 [.int .i64 t140] from rfl) (Reps.none _ _)))
                         intro v142 w24 ho25 hb hg_ hnew_
                         have HS0_:=z3 hb hHeld.1;have HS1_:=z3 hb hHeld.2;clear hg_ hnew_;(first|rw [← Ny141.out] at ho25|(simp only [Int.reduceToNat] at ho25;rw [← Ny141.out] at ho25))
                         replace HO_4:=zm (zHb (by exact HO_4.out) hb)
                         replace HO147:=zm (zHb (by exact HO147.out) hb)
                         have HO143:=zm (zZ (Kd.R_newM (M:=fun k_=>(w.heap.size ≤ k_)) ho25 (zJ (by with_reducible repeat first|exact HB.out|apply zA|apply zB|apply zC)) (fun k_ h_=>h_)) (zJ (by with_reducible repeat first|exact HB.out|apply zA|apply zB|apply zC)))
                         replace BK131:=zm (zL (by exact BK131.out) hb)
                         replace HB:=zm (zK (by with_reducible repeat first|exact HB.out|apply zA|apply zB|apply zC) hb)
                         clear hb ho25;refine hK.out _ _ ⟨HS0_,HS1_⟩ (fun hHeld=>?_)
                         clear hK K;refine norm_ (a':=?_) ?_ ?_
                         rotate_left
                         ·show Act.put _ (some 29) _ = _
                          simp only [Act.put,u0,u1,u2,i64_w,i32_w]
                          rfl
                         exact norm_ (by simp only [putAll,Act.put,u0,u1,u2];try rfl) (hJ7_8_13 (v142,v146) _ ⟨hHeld,(by exact zS HO143.out (fun _ hk=>hk.1)),(by exact HO147.out),(by exact HO_4.out),(by exact BK131.out),(by with_reducible repeat first|exact HB.out|apply zA|apply zB|apply zC)⟩)
                        ·skip
                         refine box_step ?hg (N:=5) ?hd (cs:=#[.slice none 0 0,.slice none 0 0,.slice none 0 0,.slice none 0 0]) (t:=30) ?hr ?_;(case hd=>rfl);(case hg=>rfl);(case hr=>first|(go_simp;done)|(go_simp;rfl))
                         intro gb148 hg w24 hbox hb
                         have HS0_:=z3 hb hHeld.1;have HS1_:=z3 hb hHeld.2;have n0_:=zm (zHb (by exact HO_4.out) hb)
                         have n1_:=zm (zHb (by exact HO147.out) hb)
                         have n2_:=zm (zL (by exact BK131.out) hb)
                         have n3_:=zm (zK (by with_reducible repeat first|exact HB.out|apply zA|apply zB|apply zC) hb)
                         have n4_:=zm (hbox);have n5_:=zm ((by rw [hg];exact (zJ (by with_reducible repeat first|exact HB.out|apply zA|apply zB|apply zC)) : w.heap.size ≤ gb148))
                         have n6_:=zm ((by rw [hg];exact (zJ (by with_reducible repeat first|exact HB.out|apply zA|apply zB|apply zC)) : w.heap.size ≤ gb148))
                         have n7_:=zm ((by rw [hg];exact Nat.ne_of_lt (blk_lt (by exact BK131.out)) : gb131 ≠ gb148))
                         have n8_:=zm ((by rw [hg];exact Nat.ne_of_gt (blk_lt (by exact BK131.out)) : gb148 ≠ gb131))
                         clear HO_4 HO147 BK131 HB;have HO_4:=n0_;have HO147:=n1_;have BK131:=n2_;have HB:=n3_;have BK148:=n4_;have GW148:=n5_;have GE148:=n6_;have NB131_148:=n7_;have NB148_131:=n8_;clear n0_ n1_ n2_ n3_ n4_ n5_ n6_ n7_ n8_;clear hb hbox hg;refine hK.out _ _ ⟨HS0_,HS1_⟩ (fun hHeld=>?_)
                         clear hK K;refine norm_ (a':=?_) ?_ ?_
                         rotate_left
                         ·show Act.put _ (some 5) _ = _
                          simp only [Act.put,u0,u1,u2,i64_w,i32_w]
                          rfl
                         exact norm_ (by simp only [putAll,Act.put,u0,u1,u2];try rfl) (hJ7_13_15 (v146,gb148) _ ⟨hHeld,(by exact HO147.out),(by exact HO_4.out),(by exact BK131.out),(by exact BK148.out),GW148.out,GE148.out,NB131_148.out,NB148_131.out,(by with_reducible repeat first|exact HB.out|apply zA|apply zB|apply zC)⟩)
                      ·skip
                       rintro v142 w23 ⟨hS_,h0_,h1_,h2_,h3_⟩
                       have HO143 : Aside0 (Kd.R (Kd.int .i64) 3 w23 w.heap.size (fun k_=>(w.heap.size ≤ k_)) v142 y141):=⟨h0_⟩
                       replace HO_4 : Aside0 (Kd.R Kd.string 9 w23 w.heap.size (fun k_=>(w.heap.size ≤ k_)) (.slice (some ad139) t132.length co19) t132):=⟨h1_⟩
                       replace BK131 : Aside0 (w23.heap[gb131]? = some o4):=⟨h2_⟩;replace HB : Aside0 (Below w.heap.size w w23):=⟨h3_⟩;clear h0_ h1_ h2_ h3_;have hHeld : w23.cell? (ad139.add ((ji12)).toNat) = some (.string (rdOf ByteArray.empty t132 (ji12)))∧w23.cell? ad139 = some (.string (rdOf ByteArray.empty t132 0)):=hS_;refine norm_ (a':=?_) ?_ ?_
                       rotate_left
                       ·simp only [putAll,Act.put,u0,u1,u2]
                        rfl
                       refine three_ (i:=0) (j:=13) (k:=15) (Ni:=some 21) (Nj:=some 34) (Nk:=some 5) #[y',y',y',y',y',y',y',y',y',y',y',y',y',n',n',n',n'] #[n',y',y',y',y',y',y',y',y',y',y',y',y',y',n',n',n'] #[n',y',y',y',y',y',y',y',y',y',y',y',y',n',n',y',n'] rfl rfl rfl rfl rfl rfl (three_of HT_.out (by kernel_rfl)) (by decide) (by decide) (by decide) (fun K hK=>?_) (fun K hK=>?_) (fun K hK=>?_)
                       ·skip
                        refine Kd.R_lit_step (Kd.int .i64) _ 3 ?hg (N:=21) ?hd (xs:=([(-1)] : List Int)) (inner:=[.int .i64 (-1)]) (ok:=fun _=>True) (okp:=fun _=>True) ?hr ?hp (fun _ hk=>hk) trivial (Below.refl _ _) (Nat.le_refl _) (by simp) ?_;(case hd=>rfl);(case hg=>rfl);(case hr=>first|(go_simp;done)|(go_simp;rfl));(case hp=>exact (Reps.one (show Kd.M (Kd.int .i64) _ _ _ (-1) [.int .i64 (-1)] from rfl) (Reps.none _ _)))
                        intro v137 w24 ho25 hb hg_ hnew_
                        have HS0_:=z3 hb hHeld.1;have HS1_:=z3 hb hHeld.2;clear hg_ hnew_;(first|rw [← Ny136.out] at ho25|(simp only [Int.reduceToNat] at ho25;rw [← Ny136.out] at ho25))
                        have n0_:=zm (zHb (by exact HO_4.out) hb)
                        have n1_:=zm (zGb (by exact HO143.out) (zCb ho25) hb)
                        have n2_:=zm (zZ (Kd.R_new' (Kd.R_newM (M:=fun k_=>(w.heap.size ≤ k_)) ho25 (zJ (by with_reducible repeat first|exact HB.out|apply zA|apply zB|apply zC)) (fun k_ h_=>h_)) (Kd.R_lt (by exact HO143.out))) (zJ (by with_reducible repeat first|exact HB.out|apply zA|apply zB|apply zC)))
                        have n3_:=zm (zL (by exact BK131.out) hb)
                        have n4_:=zm (zK (by with_reducible repeat first|exact HB.out|apply zA|apply zB|apply zC) hb)
                        clear HO_4 HO143 BK131 HB;have HO_4:=n0_;have HO143:=n1_;have HO138:=n2_;have BK131:=n3_;have HB:=n4_;clear n0_ n1_ n2_ n3_ n4_;clear hb ho25;refine hK.out _ _ ⟨HS0_,HS1_⟩ (fun hHeld=>?_)
                        clear hK K;refine norm_ (a':=?_) ?_ ?_
                        rotate_left
                        ·show Act.put _ (some 21) _ = _
                         simp only [Act.put,u0,u1,u2,i64_w,i32_w]
                         rfl
                        exact norm_ (by simp only [putAll,Act.put,u0,u1,u2];try rfl) (hJ0_7_8 (v137,v142) _ ⟨hHeld,(by exact zS HO138.out (fun _ hk=>⟨hk.1.1,hk.2⟩)),(by exact HO143.out),(by exact HO_4.out),(by exact BK131.out),(by with_reducible repeat first|exact HB.out|apply zA|apply zB|apply zC)⟩)
                       ·skip
                        refine Kd.R_lit_step Kd.bool _ 4 ?hg (N:=34) ?hd (xs:=([((rdOf ByteArray.empty t132 0).toList == ([111,112,101,110] : List UInt8))] : List Bool)) (inner:=[.bool ((rdOf ByteArray.empty t132 0).toList == ([111,112,101,110] : List UInt8))]) (ok:=fun _=>True) (okp:=fun _=>True) ?hr ?hp (fun _ hk=>hk) trivial (Below.refl _ _) (Nat.le_refl _) (by simp) ?_;(case hd=>rfl);(case hg=>rfl);(case hr=>first|(go_simp;done)|(go_simp;rfl));(case hp=>exact (Reps.one (show Kd.M Kd.bool _ _ _ ((rdOf ByteArray.empty t132 0).toList == ([111,112,101,110] : List UInt8)) [.bool ((rdOf ByteArray.empty t132 0).toList == ([111,112,101,110] : List UInt8))] from rfl) (Reps.none _ _)))
                        intro v146 w24 ho25 hb hg_ hnew_
                        have HS0_:=z3 hb hHeld.1;have HS1_:=z3 hb hHeld.2;clear hg_ hnew_;(first|rw [← Ny145.out] at ho25|(simp only [Int.reduceToNat] at ho25;rw [← Ny145.out] at ho25))
                        replace HO_4:=zm (zHb (by exact HO_4.out) hb)
                        replace HO143:=zm (zHb (by exact HO143.out) hb)
                        have HO147:=zm (zZ (Kd.R_newM (M:=fun k_=>(w.heap.size ≤ k_)) ho25 (zJ (by with_reducible repeat first|exact HB.out|apply zA|apply zB|apply zC)) (fun k_ h_=>h_)) (zJ (by with_reducible repeat first|exact HB.out|apply zA|apply zB|apply zC)))
                        replace BK131:=zm (zL (by exact BK131.out) hb)
                        replace HB:=zm (zK (by with_reducible repeat first|exact HB.out|apply zA|apply zB|apply zC) hb)
                        clear hb ho25;refine hK.out _ _ ⟨HS0_,HS1_⟩ (fun hHeld=>?_)
                        clear hK K;refine norm_ (a':=?_) ?_ ?_
                        rotate_left
                        ·show Act.put _ (some 34) _ = _
                         simp only [Act.put,u0,u1,u2,i64_w,i32_w]
                         rfl
                        exact norm_ (by simp only [putAll,Act.put,u0,u1,u2];try rfl) (hJ7_8_13 (v142,v146) _ ⟨hHeld,(by exact HO143.out),(by exact zS HO147.out (fun _ hk=>hk.1)),(by exact HO_4.out),(by exact BK131.out),(by with_reducible repeat first|exact HB.out|apply zA|apply zB|apply zC)⟩)
                       ·skip
                        refine box_step ?hg (N:=5) ?hd (cs:=#[.slice none 0 0,.slice none 0 0,.slice none 0 0,.slice none 0 0]) (t:=30) ?hr ?_;(case hd=>rfl);(case hg=>rfl);(case hr=>first|(go_simp;done)|(go_simp;rfl))
                        intro gb148 hg w24 hbox hb
                        have HS0_:=z3 hb hHeld.1;have HS1_:=z3 hb hHeld.2;have n0_:=zm (zHb (by exact HO_4.out) hb)
                        have n1_:=zm (zHb (by exact HO143.out) hb)
                        have n2_:=zm (zL (by exact BK131.out) hb)
                        have n3_:=zm (zK (by with_reducible repeat first|exact HB.out|apply zA|apply zB|apply zC) hb)
                        have n4_:=zm (hbox);have n5_:=zm ((by rw [hg];exact (zJ (by with_reducible repeat first|exact HB.out|apply zA|apply zB|apply zC)) : w.heap.size ≤ gb148))
                        have n6_:=zm ((by rw [hg];exact (zJ (by with_reducible repeat first|exact HB.out|apply zA|apply zB|apply zC)) : w.heap.size ≤ gb148))
                        have n7_:=zm ((by rw [hg];exact Nat.ne_of_lt (blk_lt (by exact BK131.out)) : gb131 ≠ gb148))
                        have n8_:=zm ((by rw [hg];exact Nat.ne_of_gt (blk_lt (by exact BK131.out)) : gb148 ≠ gb131))
                        clear HO_4 HO143 BK131 HB;have HO_4:=n0_;have HO143:=n1_;have BK131:=n2_;have HB:=n3_;have BK148:=n4_;have GW148:=n5_;have GE148:=n6_;have NB131_148:=n7_;have NB148_131:=n8_;clear n0_ n1_ n2_ n3_ n4_ n5_ n6_ n7_ n8_;clear hb hbox hg;refine hK.out _ _ ⟨HS0_,HS1_⟩ (fun hHeld=>?_)
                        clear hK K;refine norm_ (a':=?_) ?_ ?_
                        rotate_left
                        ·show Act.put _ (some 5) _ = _
                         simp only [Act.put,u0,u1,u2,i64_w,i32_w]
                         rfl
                        exact norm_ (by simp only [putAll,Act.put,u0,u1,u2];try rfl) (hJ7_8_15 (v142,gb148) _ ⟨hHeld,(by exact HO143.out),(by exact HO_4.out),(by exact BK131.out),(by exact BK148.out),GW148.out,GE148.out,NB131_148.out,NB148_131.out,(by with_reducible repeat first|exact HB.out|apply zA|apply zB|apply zC)⟩)
                     ·skip
                      rintro ⟨v137,gb148⟩ w23 ⟨hS_,h0_,h1_,h2_,h3_,h4_,h5_,h6_,h7_,h8_⟩
                      have HO138 : Aside0 (Kd.R (Kd.int .i64) 3 w23 w.heap.size (fun k_=>(w.heap.size ≤ k_)) v137 y136):=⟨h0_⟩
                      replace HO_4 : Aside0 (Kd.R Kd.string 9 w23 w.heap.size (fun k_=>(w.heap.size ≤ k_)) (.slice (some ad139) t132.length co19) t132):=⟨h1_⟩
                      replace BK131 : Aside0 (w23.heap[gb131]? = some o4):=⟨h2_⟩;have BK148 : Aside0 (w23.heap[gb148]? = some o4):=⟨h3_⟩;have GW148 : Aside0 (w.heap.size ≤ gb148):=⟨h4_⟩;have GE148 : Aside0 (w.heap.size ≤ gb148):=⟨h5_⟩;have NB131_148 : Aside0 (gb131 ≠ gb148):=⟨h6_⟩;have NB148_131 : Aside0 (gb148 ≠ gb131):=⟨h7_⟩;replace HB : Aside0 (Below w.heap.size w w23):=⟨h8_⟩;clear h0_ h1_ h2_ h3_ h4_ h5_ h6_ h7_ h8_;have hHeld : w23.cell? (ad139.add ((ji12)).toNat) = some (.string (rdOf ByteArray.empty t132 (ji12)))∧w23.cell? ad139 = some (.string (rdOf ByteArray.empty t132 0)):=hS_;refine norm_ (a':=?_) ?_ ?_
                      rotate_left
                      ·simp only [putAll,Act.put,u0,u1,u2]
                       rfl
                      refine two_ (i:=7) (j:=13) (Ni:=some 28) (Nj:=some 34) #[y',y',y',y',y',y',y',y',n',y',y',y',y',n',n',y',n'] #[y',y',y',y',y',y',y',n',n',y',y',y',y',y',n',y',n'] rfl rfl rfl rfl (two_of HT_.out (by kernel_rfl)) (by decide) (by decide) (fun K hK=>?_) (fun K hK=>?_)
                      ·skip
                       refine goes_ Try.func51 (by kernel_rfl) rfl #[.string (rdOf ByteArray.empty t132 (ji12))] (by rfl) rfl rfl (by (try simp only [List.map_toArray,List.map_cons,List.map_nil]);first|done|(simp only [hji12];rfl)|rfl|(simp only [List.length_drop,List.length_take];rfl)) ?_
                       with_reducible refine (spec_l4num.calls kj2 (rdOf ByteArray.empty t132 (ji12)) t140 _ A15.out).mono ?_
                       rintro e w24 ⟨rfl,hb⟩
                       have HS0_:=z3 hb hHeld.1;have HS1_:=z3 hb hHeld.2;refine ⟨_,rfl,?_⟩
                       replace HO_4:=zm (zHb (by exact HO_4.out) hb)
                       replace HO138:=zm (zHb (by exact HO138.out) hb)
                       replace BK131:=zm (zL (by exact BK131.out) hb)
                       replace BK148:=zm (zL (by exact BK148.out) hb)
                       replace HB:=zm (zK (by with_reducible repeat first|exact HB.out|apply zA|apply zB|apply zC) hb)
                       (try clear hb);(try clear hb2);(try clear hk);(try clear hi);refine hK.out _ _ ⟨HS0_,HS1_⟩ (fun hHeld=>?_)
                       clear hK K;refine norm_ (a':=?_) ?_ ?_
                       rotate_left
                       ·show Act.put _ (some 28) _ = _
                        simp only [Act.put,u0,u1,u2,i64_w,i32_w]
                        rfl
                       exact norm_ (by simp only [putAll,Act.put,u0,u1,u2];try rfl) (hJ0_7_15 (v137,gb148) _ ⟨hHeld,(by exact HO138.out),(by exact HO_4.out),(by exact BK131.out),(by exact BK148.out),GW148.out,GE148.out,NB131_148.out,NB148_131.out,(by with_reducible repeat first|exact HB.out|apply zA|apply zB|apply zC)⟩)
                      ·skip
                       refine Kd.R_lit_step Kd.bool _ 4 ?hg (N:=34) ?hd (xs:=([((rdOf ByteArray.empty t132 0).toList == ([111,112,101,110] : List UInt8))] : List Bool)) (inner:=[.bool ((rdOf ByteArray.empty t132 0).toList == ([111,112,101,110] : List UInt8))]) (ok:=fun _=>True) (okp:=fun _=>True) ?hr ?hp (fun _ hk=>hk) trivial (Below.refl _ _) (Nat.le_refl _) (by simp) ?_;(case hd=>rfl);(case hg=>rfl);(case hr=>first|(go_simp;done)|(go_simp;rfl));(case hp=>exact (Reps.one (show Kd.M Kd.bool _ _ _ ((rdOf ByteArray.empty t132 0).toList == ([111,112,101,110] : List UInt8)) [.bool ((rdOf ByteArray.empty t132 0).toList == ([111,112,101,110] : List UInt8))] from rfl) (Reps.none _ _)))
                       intro v146 w24 ho25 hb hg_ hnew_
                       have HS0_:=z3 hb hHeld.1;have HS1_:=z3 hb hHeld.2;clear hg_ hnew_;(first|rw [← Ny145.out] at ho25|(simp only [Int.reduceToNat] at ho25;rw [← Ny145.out] at ho25))
                       replace HO_4:=zm (zHb (by exact HO_4.out) hb)
                       replace HO138:=zm (zHb (by exact HO138.out) hb)
                       have HO147:=zm (zZ (Kd.R_newM (M:=fun k_=>(w.heap.size ≤ k_)) ho25 (zJ (by with_reducible repeat first|exact HB.out|apply zA|apply zB|apply zC)) (fun k_ h_=>h_)) (zJ (by with_reducible repeat first|exact HB.out|apply zA|apply zB|apply zC)))
                       replace BK131:=zm (zL (by exact BK131.out) hb)
                       replace BK148:=zm (zL (by exact BK148.out) hb)
                       replace HB:=zm (zK (by with_reducible repeat first|exact HB.out|apply zA|apply zB|apply zC) hb)
                       clear hb ho25;refine hK.out _ _ ⟨HS0_,HS1_⟩ (fun hHeld=>?_)
                       clear hK K;refine norm_ (a':=?_) ?_ ?_
                       rotate_left
                       ·show Act.put _ (some 34) _ = _
                        simp only [Act.put,u0,u1,u2,i64_w,i32_w]
                        rfl
                       exact norm_ (by simp only [putAll,Act.put,u0,u1,u2];try rfl) (hJ0_13_15 (v137,v146,gb148) _ ⟨hHeld,(by exact HO138.out),(by exact zS HO147.out (fun _ hk=>hk.1)),(by exact HO_4.out),(by exact BK131.out),(by exact BK148.out),GW148.out,GE148.out,NB131_148.out,NB148_131.out,(by with_reducible repeat first|exact HB.out|apply zA|apply zB|apply zC)⟩)
                    ·skip
                     rintro ⟨v137,v146⟩ w24 ⟨hS_,h0_,h1_,h2_,h3_,h4_⟩
                     have HO138 : Aside0 (Kd.R (Kd.int .i64) 3 w24 w.heap.size (fun k_=>(w.heap.size ≤ k_)) v137 y136):=⟨h0_⟩
                     have HO147 : Aside0 (Kd.R Kd.bool 4 w24 w.heap.size (fun k_=>(w.heap.size ≤ k_)) v146 y145):=⟨h1_⟩
                     replace HO_4 : Aside0 (Kd.R Kd.string 9 w24 w.heap.size (fun k_=>(w.heap.size ≤ k_)) (.slice (some ad139) t132.length co19) t132):=⟨h2_⟩
                     replace BK131 : Aside0 (w24.heap[gb131]? = some o4):=⟨h3_⟩;replace HB : Aside0 (Below w.heap.size w w24):=⟨h4_⟩;clear h0_ h1_ h2_ h3_ h4_;have hHeld : w24.cell? (ad139.add ((ji12)).toNat) = some (.string (rdOf ByteArray.empty t132 (ji12)))∧w24.cell? ad139 = some (.string (rdOf ByteArray.empty t132 0)):=hS_;refine norm_ (a':=?_) ?_ ?_
                     rotate_left
                     ·simp only [putAll,Act.put,u0,u1,u2]
                      rfl
                     refine two_ (i:=7) (j:=15) (Ni:=some 28) (Nj:=some 5) #[y',y',y',y',y',y',y',y',n',y',y',y',y',y',n',n',n'] #[y',y',y',y',y',y',y',n',n',y',y',y',y',y',n',y',n'] rfl rfl rfl rfl (two_of HT_.out (by kernel_rfl)) (by decide) (by decide) (fun K hK=>?_) (fun K hK=>?_)
                     ·skip
                      refine goes_ Try.func51 (by kernel_rfl) rfl #[.string (rdOf ByteArray.empty t132 (ji12))] (by rfl) rfl rfl (by (try simp only [List.map_toArray,List.map_cons,List.map_nil]);first|done|(simp only [hji12];rfl)|rfl|(simp only [List.length_drop,List.length_take];rfl)) ?_
                      with_reducible refine (spec_l4num.calls kj2 (rdOf ByteArray.empty t132 (ji12)) t140 _ A15.out).mono ?_
                      rintro e w25 ⟨rfl,hb⟩
                      have HS0_:=z3 hb hHeld.1;have HS1_:=z3 hb hHeld.2;refine ⟨_,rfl,?_⟩
                      replace HO_4:=zm (zHb (by exact HO_4.out) hb)
                      replace HO138:=zm (zHb (by exact HO138.out) hb)
                      replace HO147:=zm (zHb (by exact HO147.out) hb)
                      replace BK131:=zm (zL (by exact BK131.out) hb)
                      replace HB:=zm (zK (by with_reducible repeat first|exact HB.out|apply zA|apply zB|apply zC) hb)
                      (try clear hb);(try clear hb2);(try clear hk);(try clear hi);refine hK.out _ _ ⟨HS0_,HS1_⟩ (fun hHeld=>?_)
                      clear hK K;refine norm_ (a':=?_) ?_ ?_
                      rotate_left
                      ·show Act.put _ (some 28) _ = _
                       simp only [Act.put,u0,u1,u2,i64_w,i32_w]
                       rfl
                      exact norm_ (by simp only [putAll,Act.put,u0,u1,u2];try rfl) (hJ0_7_13 (v137,v146) _ ⟨hHeld,(by exact HO138.out),(by exact HO147.out),(by exact HO_4.out),(by exact BK131.out),(by with_reducible repeat first|exact HB.out|apply zA|apply zB|apply zC)⟩)
                     ·skip
                      refine box_step ?hg (N:=5) ?hd (cs:=#[.slice none 0 0,.slice none 0 0,.slice none 0 0,.slice none 0 0]) (t:=30) ?hr ?_;(case hd=>rfl);(case hg=>rfl);(case hr=>first|(go_simp;done)|(go_simp;rfl))
                      intro gb148 hg w25 hbox hb
                      have HS0_:=z3 hb hHeld.1;have HS1_:=z3 hb hHeld.2;have n0_:=zm (zHb (by exact HO_4.out) hb)
                      have n1_:=zm (zHb (by exact HO138.out) hb)
                      have n2_:=zm (zHb (by exact HO147.out) hb)
                      have n3_:=zm (zL (by exact BK131.out) hb)
                      have n4_:=zm (zK (by with_reducible repeat first|exact HB.out|apply zA|apply zB|apply zC) hb)
                      have n5_:=zm (hbox);have n6_:=zm ((by rw [hg];exact (zJ (by with_reducible repeat first|exact HB.out|apply zA|apply zB|apply zC)) : w.heap.size ≤ gb148))
                      have n7_:=zm ((by rw [hg];exact (zJ (by with_reducible repeat first|exact HB.out|apply zA|apply zB|apply zC)) : w.heap.size ≤ gb148))
                      have n8_:=zm ((by rw [hg];exact Nat.ne_of_lt (blk_lt (by exact BK131.out)) : gb131 ≠ gb148))
                      have n9_:=zm ((by rw [hg];exact Nat.ne_of_gt (blk_lt (by exact BK131.out)) : gb148 ≠ gb131))
                      clear HO_4 HO138 HO147 BK131 HB;have HO_4:=n0_;have HO138:=n1_;have HO147:=n2_;have BK131:=n3_;have HB:=n4_;have BK148:=n5_;have GW148:=n6_;have GE148:=n7_;have NB131_148:=n8_;have NB148_131:=n9_;clear n0_ n1_ n2_ n3_ n4_ n5_ n6_ n7_ n8_ n9_;clear hb hbox hg;refine hK.out _ _ ⟨HS0_,HS1_⟩ (fun hHeld=>?_)
                      clear hK K;refine norm_ (a':=?_) ?_ ?_
                      rotate_left
                      ·show Act.put _ (some 5) _ = _
                       simp only [Act.put,u0,u1,u2,i64_w,i32_w]
                       rfl
                      exact norm_ (by simp only [putAll,Act.put,u0,u1,u2];try rfl) (hJ0_13_15 (v137,v146,gb148) _ ⟨hHeld,(by exact HO138.out),(by exact HO147.out),(by exact HO_4.out),(by exact BK131.out),(by exact BK148.out),GW148.out,GE148.out,NB131_148.out,NB148_131.out,(by with_reducible repeat first|exact HB.out|apply zA|apply zB|apply zC)⟩)
                   ·skip
                    rintro v137 w23 ⟨hS_,h0_,h1_,h2_,h3_⟩
                    have HO138 : Aside0 (Kd.R (Kd.int .i64) 3 w23 w.heap.size (fun k_=>(w.heap.size ≤ k_)) v137 y136):=⟨h0_⟩
                    replace HO_4 : Aside0 (Kd.R Kd.string 9 w23 w.heap.size (fun k_=>(w.heap.size ≤ k_)) (.slice (some ad139) t132.length co19) t132):=⟨h1_⟩
                    replace BK131 : Aside0 (w23.heap[gb131]? = some o4):=⟨h2_⟩;replace HB : Aside0 (Below w.heap.size w w23):=⟨h3_⟩;clear h0_ h1_ h2_ h3_;have hHeld : w23.cell? (ad139.add ((ji12)).toNat) = some (.string (rdOf ByteArray.empty t132 (ji12)))∧w23.cell? ad139 = some (.string (rdOf ByteArray.empty t132 0)):=hS_;refine norm_ (a':=?_) ?_ ?_
                    rotate_left
                    ·simp only [putAll,Act.put,u0,u1,u2]
                     rfl
                    refine three_ (i:=8) (j:=13) (k:=15) (Ni:=some 29) (Nj:=some 34) (Nk:=some 5) #[y',y',y',y',y',y',y',y',y',y',y',y',y',n',n',n',n'] #[y',y',y',y',y',y',y',y',n',y',y',y',y',y',n',n',n'] #[y',y',y',y',y',y',y',y',n',y',y',y',y',n',n',y',n'] rfl rfl rfl rfl rfl rfl (three_of HT_.out (by kernel_rfl)) (by decide) (by decide) (by decide) (fun K hK=>?_) (fun K hK=>?_) (fun K hK=>?_)
                    ·skip
                     refine Kd.R_lit_step (Kd.int .i64) _ 3 ?hg (N:=29) ?hd (xs:=([t140] : List Int)) (inner:=[.int .i64 t140]) (ok:=fun _=>True) (okp:=fun _=>True) ?hr ?hp (fun _ hk=>hk) trivial (Below.refl _ _) (Nat.le_refl _) (by simp) ?_;(case hd=>rfl);(case hg=>rfl);(case hr=>first|(go_simp;done)|(go_simp;rfl));(case hp=>exact (Reps.one (show Kd.M (Kd.int .i64) _ _ _ t140 [.int .i64 t140] from rfl) (Reps.none _ _)))
                     intro v142 w24 ho25 hb hg_ hnew_
                     have HS0_:=z3 hb hHeld.1;have HS1_:=z3 hb hHeld.2;clear hg_ hnew_;(first|rw [← Ny141.out] at ho25|(simp only [Int.reduceToNat] at ho25;rw [← Ny141.out] at ho25))
                     have n0_:=zm (zHb (by exact HO_4.out) hb)
                     have n1_:=zm (zGb (by exact HO138.out) (zCb ho25) hb)
                     have n2_:=zm (zZ (Kd.R_new' (Kd.R_newM (M:=fun k_=>(w.heap.size ≤ k_)) ho25 (zJ (by with_reducible repeat first|exact HB.out|apply zA|apply zB|apply zC)) (fun k_ h_=>h_)) (Kd.R_lt (by exact HO138.out))) (zJ (by with_reducible repeat first|exact HB.out|apply zA|apply zB|apply zC)))
                     have n3_:=zm (zL (by exact BK131.out) hb)
                     have n4_:=zm (zK (by with_reducible repeat first|exact HB.out|apply zA|apply zB|apply zC) hb)
                     clear HO_4 HO138 BK131 HB;have HO_4:=n0_;have HO138:=n1_;have HO143:=n2_;have BK131:=n3_;have HB:=n4_;clear n0_ n1_ n2_ n3_ n4_;clear hb ho25;refine hK.out _ _ ⟨HS0_,HS1_⟩ (fun hHeld=>?_)
                     clear hK K;refine norm_ (a':=?_) ?_ ?_
                     rotate_left
                     ·show Act.put _ (some 29) _ = _
                      simp only [Act.put,u0,u1,u2,i64_w,i32_w]
                      rfl
                     exact norm_ (by simp only [putAll,Act.put,u0,u1,u2];try rfl) (hJ0_7_8 (v137,v142) _ ⟨hHeld,(by exact HO138.out),(by exact zS HO143.out (fun _ hk=>⟨hk.1.1,hk.2⟩)),(by exact HO_4.out),(by exact BK131.out),(by with_reducible repeat first|exact HB.out|apply zA|apply zB|apply zC)⟩)
                    ·skip
                     refine Kd.R_lit_step Kd.bool _ 4 ?hg (N:=34) ?hd (xs:=([((rdOf ByteArray.empty t132 0).toList == ([111,112,101,110] : List UInt8))] : List Bool)) (inner:=[.bool ((rdOf ByteArray.empty t132 0).toList == ([111,112,101,110] : List UInt8))]) (ok:=fun _=>True) (okp:=fun _=>True) ?hr ?hp (fun _ hk=>hk) trivial (Below.refl _ _) (Nat.le_refl _) (by simp) ?_;(case hd=>rfl);(case hg=>rfl);(case hr=>first|(go_simp;done)|(go_simp;rfl));(case hp=>exact (Reps.one (show Kd.M Kd.bool _ _ _ ((rdOf ByteArray.empty t132 0).toList == ([111,112,101,110] : List UInt8)) [.bool ((rdOf ByteArray.empty t132 0).toList == ([111,112,101,110] : List UInt8))] from rfl) (Reps.none _ _)))
                     intro v146 w24 ho25 hb hg_ hnew_
                     have HS0_:=z3 hb hHeld.1;have HS1_:=z3 hb hHeld.2;clear hg_ hnew_;(first|rw [← Ny145.out] at ho25|(simp only [Int.reduceToNat] at ho25;rw [← Ny145.out] at ho25))
                     replace HO_4:=zm (zHb (by exact HO_4.out) hb)
                     replace HO138:=zm (zHb (by exact HO138.out) hb)
                     have HO147:=zm (zZ (Kd.R_newM (M:=fun k_=>(w.heap.size ≤ k_)) ho25 (zJ (by with_reducible repeat first|exact HB.out|apply zA|apply zB|apply zC)) (fun k_ h_=>h_)) (zJ (by with_reducible repeat first|exact HB.out|apply zA|apply zB|apply zC)))
                     replace BK131:=zm (zL (by exact BK131.out) hb)
                     replace HB:=zm (zK (by with_reducible repeat first|exact HB.out|apply zA|apply zB|apply zC) hb)
                     clear hb ho25;refine hK.out _ _ ⟨HS0_,HS1_⟩ (fun hHeld=>?_)
                     clear hK K;refine norm_ (a':=?_) ?_ ?_
                     rotate_left
                     ·show Act.put _ (some 34) _ = _
                      simp only [Act.put,u0,u1,u2,i64_w,i32_w]
                      rfl
                     exact norm_ (by simp only [putAll,Act.put,u0,u1,u2];try rfl) (hJ0_7_13 (v137,v146) _ ⟨hHeld,(by exact HO138.out),(by exact zS HO147.out (fun _ hk=>hk.1)),(by exact HO_4.out),(by exact BK131.out),(by with_reducible repeat first|exact HB.out|apply zA|apply zB|apply zC)⟩)
                    ·skip
                     refine box_step ?hg (N:=5) ?hd (cs:=#[.slice none 0 0,.slice none 0 0,.slice none 0 0,.slice none 0 0]) (t:=30) ?hr ?_;(case hd=>rfl);(case hg=>rfl);(case hr=>first|(go_simp;done)|(go_simp;rfl))
                     intro gb148 hg w24 hbox hb
                     have HS0_:=z3 hb hHeld.1;have HS1_:=z3 hb hHeld.2;have n0_:=zm (zHb (by exact HO_4.out) hb)
                     have n1_:=zm (zHb (by exact HO138.out) hb)
                     have n2_:=zm (zL (by exact BK131.out) hb)
                     have n3_:=zm (zK (by with_reducible repeat first|exact HB.out|apply zA|apply zB|apply zC) hb)
                     have n4_:=zm (hbox);have n5_:=zm ((by rw [hg];exact (zJ (by with_reducible repeat first|exact HB.out|apply zA|apply zB|apply zC)) : w.heap.size ≤ gb148))
                     have n6_:=zm ((by rw [hg];exact (zJ (by with_reducible repeat first|exact HB.out|apply zA|apply zB|apply zC)) : w.heap.size ≤ gb148))
                     have n7_:=zm ((by rw [hg];exact Nat.ne_of_lt (blk_lt (by exact BK131.out)) : gb131 ≠ gb148))
                     have n8_:=zm ((by rw [hg];exact Nat.ne_of_gt (blk_lt (by exact BK131.out)) : gb148 ≠ gb131))
                     clear HO_4 HO138 BK131 HB;have HO_4:=n0_;have HO138:=n1_;have BK131:=n2_;have HB:=n3_;have BK148:=n4_;have GW148:=n5_;have GE148:=n6_;have NB131_148:=n7_;have NB148_131:=n8_;clear n0_ n1_ n2_ n3_ n4_ n5_ n6_ n7_ n8_;clear hb hbox hg;refine hK.out _ _ ⟨HS0_,HS1_⟩ (fun hHeld=>?_)
                     clear hK K;refine norm_ (a':=?_) ?_ ?_
                     rotate_left
                     ·show Act.put _ (some 5) _ = _
                      simp only [Act.put,u0,u1,u2,i64_w,i32_w]
                      rfl
                     exact norm_ (by simp only [putAll,Act.put,u0,u1,u2];try rfl) (hJ0_7_15 (v137,gb148) _ ⟨hHeld,(by exact HO138.out),(by exact HO_4.out),(by exact BK131.out),(by exact BK148.out),GW148.out,GE148.out,NB131_148.out,NB148_131.out,(by with_reducible repeat first|exact HB.out|apply zA|apply zB|apply zC)⟩)
                  ·skip
                   rintro ⟨v146,gb148⟩ w24 ⟨hS_,h0_,h1_,h2_,h3_,h4_,h5_,h6_,h7_,h8_⟩
                   have HO147 : Aside0 (Kd.R Kd.bool 4 w24 w.heap.size (fun k_=>(w.heap.size ≤ k_)) v146 y145):=⟨h0_⟩
                   replace HO_4 : Aside0 (Kd.R Kd.string 9 w24 w.heap.size (fun k_=>(w.heap.size ≤ k_)) (.slice (some ad139) t132.length co19) t132):=⟨h1_⟩
                   replace BK131 : Aside0 (w24.heap[gb131]? = some o4):=⟨h2_⟩;have BK148 : Aside0 (w24.heap[gb148]? = some o4):=⟨h3_⟩;have GW148 : Aside0 (w.heap.size ≤ gb148):=⟨h4_⟩;have GE148 : Aside0 (w.heap.size ≤ gb148):=⟨h5_⟩;have NB131_148 : Aside0 (gb131 ≠ gb148):=⟨h6_⟩;have NB148_131 : Aside0 (gb148 ≠ gb131):=⟨h7_⟩;replace HB : Aside0 (Below w.heap.size w w24):=⟨h8_⟩;clear h0_ h1_ h2_ h3_ h4_ h5_ h6_ h7_ h8_;have hHeld : w24.cell? (ad139.add ((ji12)).toNat) = some (.string (rdOf ByteArray.empty t132 (ji12)))∧w24.cell? ad139 = some (.string (rdOf ByteArray.empty t132 0)):=hS_;refine norm_ (a':=?_) ?_ ?_
                   rotate_left
                   ·simp only [putAll,Act.put,u0,u1,u2]
                    rfl
                   refine two_ (i:=0) (j:=8) (Ni:=some 21) (Nj:=some 29) #[y',y',y',y',y',y',y',y',n',y',y',y',y',y',n',y',n'] #[n',y',y',y',y',y',y',y',y',y',y',y',y',y',n',y',n'] rfl rfl rfl rfl (two_of HT_.out (by kernel_rfl)) (by decide) (by decide) (fun K hK=>?_) (fun K hK=>?_)
                   ·skip
                    refine Kd.R_lit_step (Kd.int .i64) _ 3 ?hg (N:=21) ?hd (xs:=([(-1)] : List Int)) (inner:=[.int .i64 (-1)]) (ok:=fun _=>True) (okp:=fun _=>True) ?hr ?hp (fun _ hk=>hk) trivial (Below.refl _ _) (Nat.le_refl _) (by simp) ?_;(case hd=>rfl);(case hg=>rfl);(case hr=>first|(go_simp;done)|(go_simp;rfl));(case hp=>exact (Reps.one (show Kd.M (Kd.int .i64) _ _ _ (-1) [.int .i64 (-1)] from rfl) (Reps.none _ _)))
                    intro v137 w25 ho26 hb hg_ hnew_
                    have HS0_:=z3 hb hHeld.1;have HS1_:=z3 hb hHeld.2;clear hg_ hnew_;(first|rw [← Ny136.out] at ho26|(simp only [Int.reduceToNat] at ho26;rw [← Ny136.out] at ho26))
                    replace HO_4:=zm (zHb (by exact HO_4.out) hb)
                    replace HO147:=zm (zHb (by exact HO147.out) hb)
                    have HO138:=zm (zZ (Kd.R_newM (M:=fun k_=>(w.heap.size ≤ k_)) ho26 (zJ (by with_reducible repeat first|exact HB.out|apply zA|apply zB|apply zC)) (fun k_ h_=>h_)) (zJ (by with_reducible repeat first|exact HB.out|apply zA|apply zB|apply zC)))
                    replace BK131:=zm (zL (by exact BK131.out) hb)
                    replace BK148:=zm (zL (by exact BK148.out) hb)
                    replace HB:=zm (zK (by with_reducible repeat first|exact HB.out|apply zA|apply zB|apply zC) hb)
                    clear hb ho26;refine hK.out _ _ ⟨HS0_,HS1_⟩ (fun hHeld=>?_)
                    clear hK K;refine norm_ (a':=?_) ?_ ?_
                    rotate_left
                    ·show Act.put _ (some 21) _ = _
                     simp only [Act.put,u0,u1,u2,i64_w,i32_w]
                     rfl
                    exact norm_ (by simp only [putAll,Act.put,u0,u1,u2];try rfl) (hJ0_7_13_15 (v137,v146,gb148) _ ⟨hHeld,(by exact zS HO138.out (fun _ hk=>hk.1)),(by exact HO147.out),(by exact HO_4.out),(by exact BK131.out),(by exact BK148.out),GW148.out,GE148.out,NB131_148.out,NB148_131.out,(by with_reducible repeat first|exact HB.out|apply zA|apply zB|apply zC)⟩)
                   ·skip
                    refine Kd.R_lit_step (Kd.int .i64) _ 3 ?hg (N:=29) ?hd (xs:=([t140] : List Int)) (inner:=[.int .i64 t140]) (ok:=fun _=>True) (okp:=fun _=>True) ?hr ?hp (fun _ hk=>hk) trivial (Below.refl _ _) (Nat.le_refl _) (by simp) ?_;(case hd=>rfl);(case hg=>rfl);(case hr=>first|(go_simp;done)|(go_simp;rfl));(case hp=>exact (Reps.one (show Kd.M (Kd.int .i64) _ _ _ t140 [.int .i64 t140] from rfl) (Reps.none _ _)))
                    intro v142 w25 ho26 hb hg_ hnew_
                    have HS0_:=z3 hb hHeld.1;have HS1_:=z3 hb hHeld.2;clear hg_ hnew_;(first|rw [← Ny141.out] at ho26|(simp only [Int.reduceToNat] at ho26;rw [← Ny141.out] at ho26))
                    replace HO_4:=zm (zHb (by exact HO_4.out) hb)
                    replace HO147:=zm (zHb (by exact HO147.out) hb)
                    have HO143:=zm (zZ (Kd.R_newM (M:=fun k_=>(w.heap.size ≤ k_)) ho26 (zJ (by with_reducible repeat first|exact HB.out|apply zA|apply zB|apply zC)) (fun k_ h_=>h_)) (zJ (by with_reducible repeat first|exact HB.out|apply zA|apply zB|apply zC)))
                    replace BK131:=zm (zL (by exact BK131.out) hb)
                    replace BK148:=zm (zL (by exact BK148.out) hb)
                    replace HB:=zm (zK (by with_reducible repeat first|exact HB.out|apply zA|apply zB|apply zC) hb)
                    clear hb ho26;refine hK.out _ _ ⟨HS0_,HS1_⟩ (fun hHeld=>?_)
                    clear hK K;refine norm_ (a':=?_) ?_ ?_
                    rotate_left
                    ·show Act.put _ (some 29) _ = _
                     simp only [Act.put,u0,u1,u2,i64_w,i32_w]
                     rfl
                    exact norm_ (by simp only [putAll,Act.put,u0,u1,u2];try rfl) (hJ7_8_13_15 (v142,v146,gb148) _ ⟨hHeld,(by exact zS HO143.out (fun _ hk=>hk.1)),(by exact HO147.out),(by exact HO_4.out),(by exact BK131.out),(by exact BK148.out),GW148.out,GE148.out,NB131_148.out,NB148_131.out,(by with_reducible repeat first|exact HB.out|apply zA|apply zB|apply zC)⟩)
                 ·skip
                  rintro ⟨v142,gb148⟩ w24 ⟨hS_,h0_,h1_,h2_,h3_,h4_,h5_,h6_,h7_,h8_⟩
                  have HO143 : Aside0 (Kd.R (Kd.int .i64) 3 w24 w.heap.size (fun k_=>(w.heap.size ≤ k_)) v142 y141):=⟨h0_⟩
                  replace HO_4 : Aside0 (Kd.R Kd.string 9 w24 w.heap.size (fun k_=>(w.heap.size ≤ k_)) (.slice (some ad139) t132.length co19) t132):=⟨h1_⟩
                  replace BK131 : Aside0 (w24.heap[gb131]? = some o4):=⟨h2_⟩;have BK148 : Aside0 (w24.heap[gb148]? = some o4):=⟨h3_⟩;have GW148 : Aside0 (w.heap.size ≤ gb148):=⟨h4_⟩;have GE148 : Aside0 (w.heap.size ≤ gb148):=⟨h5_⟩;have NB131_148 : Aside0 (gb131 ≠ gb148):=⟨h6_⟩;have NB148_131 : Aside0 (gb148 ≠ gb131):=⟨h7_⟩;replace HB : Aside0 (Below w.heap.size w w24):=⟨h8_⟩;clear h0_ h1_ h2_ h3_ h4_ h5_ h6_ h7_ h8_;have hHeld : w24.cell? (ad139.add ((ji12)).toNat) = some (.string (rdOf ByteArray.empty t132 (ji12)))∧w24.cell? ad139 = some (.string (rdOf ByteArray.empty t132 0)):=hS_;refine norm_ (a':=?_) ?_ ?_
                  rotate_left
                  ·simp only [putAll,Act.put,u0,u1,u2]
                   rfl
                  refine two_ (i:=0) (j:=13) (Ni:=some 21) (Nj:=some 34) #[y',y',y',y',y',y',y',y',y',y',y',y',y',n',n',y',n'] #[n',y',y',y',y',y',y',y',y',y',y',y',y',y',n',y',n'] rfl rfl rfl rfl (two_of HT_.out (by kernel_rfl)) (by decide) (by decide) (fun K hK=>?_) (fun K hK=>?_)
                  ·skip
                   refine Kd.R_lit_step (Kd.int .i64) _ 3 ?hg (N:=21) ?hd (xs:=([(-1)] : List Int)) (inner:=[.int .i64 (-1)]) (ok:=fun _=>True) (okp:=fun _=>True) ?hr ?hp (fun _ hk=>hk) trivial (Below.refl _ _) (Nat.le_refl _) (by simp) ?_;(case hd=>rfl);(case hg=>rfl);(case hr=>first|(go_simp;done)|(go_simp;rfl));(case hp=>exact (Reps.one (show Kd.M (Kd.int .i64) _ _ _ (-1) [.int .i64 (-1)] from rfl) (Reps.none _ _)))
                   intro v137 w25 ho26 hb hg_ hnew_
                   have HS0_:=z3 hb hHeld.1;have HS1_:=z3 hb hHeld.2;clear hg_ hnew_;(first|rw [← Ny136.out] at ho26|(simp only [Int.reduceToNat] at ho26;rw [← Ny136.out] at ho26))
                   have n0_:=zm (zHb (by exact HO_4.out) hb)
                   have n1_:=zm (zGb (by exact HO143.out) (zCb ho26) hb)
                   have n2_:=zm (zZ (Kd.R_new' (Kd.R_newM (M:=fun k_=>(w.heap.size ≤ k_)) ho26 (zJ (by with_reducible repeat first|exact HB.out|apply zA|apply zB|apply zC)) (fun k_ h_=>h_)) (Kd.R_lt (by exact HO143.out))) (zJ (by with_reducible repeat first|exact HB.out|apply zA|apply zB|apply zC)))
                   have n3_:=zm (zL (by exact BK131.out) hb)
                   have n4_:=zm (zL (by exact BK148.out) hb)
                   have n5_:=zm (zK (by with_reducible repeat first|exact HB.out|apply zA|apply zB|apply zC) hb)
                   clear HO_4 HO143 BK131 BK148 HB;have HO_4:=n0_;have HO143:=n1_;have HO138:=n2_;have BK131:=n3_;have BK148:=n4_;have HB:=n5_;clear n0_ n1_ n2_ n3_ n4_ n5_;clear hb ho26;refine hK.out _ _ ⟨HS0_,HS1_⟩ (fun hHeld=>?_)
                   clear hK K;refine norm_ (a':=?_) ?_ ?_
                   rotate_left
                   ·show Act.put _ (some 21) _ = _
                    simp only [Act.put,u0,u1,u2,i64_w,i32_w]
                    rfl
                   exact norm_ (by simp only [putAll,Act.put,u0,u1,u2];try rfl) (hJ0_7_8_15 (v137,v142,gb148) _ ⟨hHeld,(by exact zS HO138.out (fun _ hk=>⟨hk.1.1,hk.2⟩)),(by exact HO143.out),(by exact HO_4.out),(by exact BK131.out),(by exact BK148.out),GW148.out,GE148.out,NB131_148.out,NB148_131.out,(by with_reducible repeat first|exact HB.out|apply zA|apply zB|apply zC)⟩)
                  ·skip
                   refine Kd.R_lit_step Kd.bool _ 4 ?hg (N:=34) ?hd (xs:=([((rdOf ByteArray.empty t132 0).toList == ([111,112,101,110] : List UInt8))] : List Bool)) (inner:=[.bool ((rdOf ByteArray.empty t132 0).toList == ([111,112,101,110] : List UInt8))]) (ok:=fun _=>True) (okp:=fun _=>True) ?hr ?hp (fun _ hk=>hk) trivial (Below.refl _ _) (Nat.le_refl _) (by simp) ?_;(case hd=>rfl);(case hg=>rfl);(case hr=>first|(go_simp;done)|(go_simp;rfl));(case hp=>exact (Reps.one (show Kd.M Kd.bool _ _ _ ((rdOf ByteArray.empty t132 0).toList == ([111,112,101,110] : List UInt8)) [.bool ((rdOf ByteArray.empty t132 0).toList == ([111,112,101,110] : List UInt8))] from rfl) (Reps.none _ _)))
                   intro v146 w25 ho26 hb hg_ hnew_
                   have HS0_:=z3 hb hHeld.1;have HS1_:=z3 hb hHeld.2;clear hg_ hnew_;(first|rw [← Ny145.out] at ho26|(simp only [Int.reduceToNat] at ho26;rw [← Ny145.out] at ho26))
                   replace HO_4:=zm (zHb (by exact HO_4.out) hb)
                   replace HO143:=zm (zHb (by exact HO143.out) hb)
                   have HO147:=zm (zZ (Kd.R_newM (M:=fun k_=>(w.heap.size ≤ k_)) ho26 (zJ (by with_reducible repeat first|exact HB.out|apply zA|apply zB|apply zC)) (fun k_ h_=>h_)) (zJ (by with_reducible repeat first|exact HB.out|apply zA|apply zB|apply zC)))
                   replace BK131:=zm (zL (by exact BK131.out) hb)
                   replace BK148:=zm (zL (by exact BK148.out) hb)
                   replace HB:=zm (zK (by with_reducible repeat first|exact HB.out|apply zA|apply zB|apply zC) hb)
                   clear hb ho26;refine hK.out _ _ ⟨HS0_,HS1_⟩ (fun hHeld=>?_)
                   clear hK K;refine norm_ (a':=?_) ?_ ?_
                   rotate_left
                   ·show Act.put _ (some 34) _ = _
                    simp only [Act.put,u0,u1,u2,i64_w,i32_w]
                    rfl
                   exact norm_ (by simp only [putAll,Act.put,u0,u1,u2];try rfl) (hJ7_8_13_15 (v142,v146,gb148) _ ⟨hHeld,(by exact HO143.out),(by exact zS HO147.out (fun _ hk=>hk.1)),(by exact HO_4.out),(by exact BK131.out),(by exact BK148.out),GW148.out,GE148.out,NB131_148.out,NB148_131.out,(by with_reducible repeat first|exact HB.out|apply zA|apply zB|apply zC)⟩)
                ·skip
                 rintro ⟨v142,v146⟩ w25 ⟨hS_,h0_,h1_,h2_,h3_,h4_⟩
                 have HO143 : Aside0 (Kd.R (Kd.int .i64) 3 w25 w.heap.size (fun k_=>(w.heap.size ≤ k_)) v142 y141):=⟨h0_⟩
                 have HO147 : Aside0 (Kd.R Kd.bool 4 w25 w.heap.size (fun k_=>(w.heap.size ≤ k_)) v146 y145):=⟨h1_⟩
                 replace HO_4 : Aside0 (Kd.R Kd.string 9 w25 w.heap.size (fun k_=>(w.heap.size ≤ k_)) (.slice (some ad139) t132.length co19) t132):=⟨h2_⟩
                 replace BK131 : Aside0 (w25.heap[gb131]? = some o4):=⟨h3_⟩;replace HB : Aside0 (Below w.heap.size w w25):=⟨h4_⟩;clear h0_ h1_ h2_ h3_ h4_;have hHeld : w25.cell? (ad139.add ((ji12)).toNat) = some (.string (rdOf ByteArray.empty t132 (ji12)))∧w25.cell? ad139 = some (.string (rdOf ByteArray.empty t132 0)):=hS_;refine norm_ (a':=?_) ?_ ?_
                 rotate_left
                 ·simp only [putAll,Act.put,u0,u1,u2]
                  rfl
                 refine two_ (i:=0) (j:=15) (Ni:=some 21) (Nj:=some 5) #[y',y',y',y',y',y',y',y',y',y',y',y',y',y',n',n',n'] #[n',y',y',y',y',y',y',y',y',y',y',y',y',y',n',y',n'] rfl rfl rfl rfl (two_of HT_.out (by kernel_rfl)) (by decide) (by decide) (fun K hK=>?_) (fun K hK=>?_)
                 ·skip
                  refine Kd.R_lit_step (Kd.int .i64) _ 3 ?hg (N:=21) ?hd (xs:=([(-1)] : List Int)) (inner:=[.int .i64 (-1)]) (ok:=fun _=>True) (okp:=fun _=>True) ?hr ?hp (fun _ hk=>hk) trivial (Below.refl _ _) (Nat.le_refl _) (by simp) ?_;(case hd=>rfl);(case hg=>rfl);(case hr=>first|(go_simp;done)|(go_simp;rfl));(case hp=>exact (Reps.one (show Kd.M (Kd.int .i64) _ _ _ (-1) [.int .i64 (-1)] from rfl) (Reps.none _ _)))
                  intro v137 w26 ho27 hb hg_ hnew_
                  have HS0_:=z3 hb hHeld.1;have HS1_:=z3 hb hHeld.2;clear hg_ hnew_;(first|rw [← Ny136.out] at ho27|(simp only [Int.reduceToNat] at ho27;rw [← Ny136.out] at ho27))
                  have n0_:=zm (zHb (by exact HO_4.out) hb)
                  have n1_:=zm (zGb (by exact HO143.out) (zCb ho27) hb)
                  have n2_:=zm (zHb (by exact HO147.out) hb)
                  have n3_:=zm (zZ (Kd.R_new' (Kd.R_newM (M:=fun k_=>(w.heap.size ≤ k_)) ho27 (zJ (by with_reducible repeat first|exact HB.out|apply zA|apply zB|apply zC)) (fun k_ h_=>h_)) (Kd.R_lt (by exact HO143.out))) (zJ (by with_reducible repeat first|exact HB.out|apply zA|apply zB|apply zC)))
                  have n4_:=zm (zL (by exact BK131.out) hb)
                  have n5_:=zm (zK (by with_reducible repeat first|exact HB.out|apply zA|apply zB|apply zC) hb)
                  clear HO_4 HO143 HO147 BK131 HB;have HO_4:=n0_;have HO143:=n1_;have HO147:=n2_;have HO138:=n3_;have BK131:=n4_;have HB:=n5_;clear n0_ n1_ n2_ n3_ n4_ n5_;clear hb ho27;obtain ⟨Ao28,co28,eo28⟩:=zAb HO147.out;(first|subst eo28|(injection eo28 with f1_ f2_ f3_;have f4_:=f1_.symm;have f5_:=f3_.symm;clear f1_ f2_ f3_;subst f4_;subst f5_))
                  obtain ⟨Ao29,co29,eo29⟩:=zAb HO143.out;(first|subst eo29|(injection eo29 with f1_ f2_ f3_;have f4_:=f1_.symm;have f5_:=f3_.symm;clear f1_ f2_ f3_;subst f4_;subst f5_))
                  obtain ⟨Ao30,co30,eo30⟩:=zAb HO138.out;(first|subst eo30|(injection eo30 with f1_ f2_ f3_;have f4_:=f1_.symm;have f5_:=f3_.symm;clear f1_ f2_ f3_;subst f4_;subst f5_))
                  refine hK.out _ _ ⟨HS0_,HS1_⟩ (fun hHeld=>?_)
                  clear hK K;refine norm_ (a':=?_) ?_ ?_
                  rotate_left
                  ·show Act.put _ (some 21) _ = _
                   simp only [Act.put,u0,u1,u2,i64_w,i32_w]
                   rfl
                  refine pure_ (i:=14) (N:=some 35) (v:=?_) (a':=?_) #[y',y',y',y',y',y',y',y',y',y',y',y',y',y',y',n',n'] rfl rfl (any_of HT_.out (by kernel_rfl)) (fun _ _ _ h=>h) (Or.inl ⟨by rfl,?_⟩) ?_ ?_
                  rotate_left
                  ·intro w'
                   go_simp
                   with_reducible rfl
                  rotate_left
                  ·simp only [Act.put,u0,u1,u2,i64_w,i32_w]
                   rfl
                  exact norm_ (by simp only [putAll,Act.put,u0,u1,u2];try rfl) (hJ0_7_8_13 (.slice Ao30 y136.length co30,.slice Ao29 y141.length co29,.slice Ao28 y145.length co28) _ ⟨hHeld,(by exact zS HO138.out (fun _ hk=>⟨hk.1.1,hk.2⟩)),(by exact HO143.out),(by exact HO147.out),(by exact HO_4.out),(by exact BK131.out),(by with_reducible repeat first|exact HB.out|apply zA|apply zB|apply zC)⟩)
                 ·skip
                  refine box_step ?hg (N:=5) ?hd (cs:=#[.slice none 0 0,.slice none 0 0,.slice none 0 0,.slice none 0 0]) (t:=30) ?hr ?_;(case hd=>rfl);(case hg=>rfl);(case hr=>first|(go_simp;done)|(go_simp;rfl))
                  intro gb148 hg w26 hbox hb
                  have HS0_:=z3 hb hHeld.1;have HS1_:=z3 hb hHeld.2;have n0_:=zm (zHb (by exact HO_4.out) hb)
                  have n1_:=zm (zHb (by exact HO143.out) hb)
                  have n2_:=zm (zHb (by exact HO147.out) hb)
                  have n3_:=zm (zL (by exact BK131.out) hb)
                  have n4_:=zm (zK (by with_reducible repeat first|exact HB.out|apply zA|apply zB|apply zC) hb)
                  have n5_:=zm (hbox);have n6_:=zm ((by rw [hg];exact (zJ (by with_reducible repeat first|exact HB.out|apply zA|apply zB|apply zC)) : w.heap.size ≤ gb148))
                  have n7_:=zm ((by rw [hg];exact (zJ (by with_reducible repeat first|exact HB.out|apply zA|apply zB|apply zC)) : w.heap.size ≤ gb148))
                  have n8_:=zm ((by rw [hg];exact Nat.ne_of_lt (blk_lt (by exact BK131.out)) : gb131 ≠ gb148))
                  have n9_:=zm ((by rw [hg];exact Nat.ne_of_gt (blk_lt (by exact BK131.out)) : gb148 ≠ gb131))
                  clear HO_4 HO143 HO147 BK131 HB;have HO_4:=n0_;have HO143:=n1_;have HO147:=n2_;have BK131:=n3_;have HB:=n4_;have BK148:=n5_;have GW148:=n6_;have GE148:=n7_;have NB131_148:=n8_;have NB148_131:=n9_;clear n0_ n1_ n2_ n3_ n4_ n5_ n6_ n7_ n8_ n9_;clear hb hbox hg;refine hK.out _ _ ⟨HS0_,HS1_⟩ (fun hHeld=>?_)
                  clear hK K;refine norm_ (a':=?_) ?_ ?_
                  rotate_left
                  ·show Act.put _ (some 5) _ = _
                   simp only [Act.put,u0,u1,u2,i64_w,i32_w]
                   rfl
                  exact norm_ (by simp only [putAll,Act.put,u0,u1,u2];try rfl) (hJ7_8_13_15 (v142,v146,gb148) _ ⟨hHeld,(by exact HO143.out),(by exact HO147.out),(by exact HO_4.out),(by exact BK131.out),(by exact BK148.out),GW148.out,GE148.out,NB131_148.out,NB148_131.out,(by with_reducible repeat first|exact HB.out|apply zA|apply zB|apply zC)⟩)
               ·skip
                rintro ⟨v137,v146,gb148⟩ w25 ⟨hS_,h0_,h1_,h2_,h3_,h4_,h5_,h6_,h7_,h8_,h9_⟩
                have HO138 : Aside0 (Kd.R (Kd.int .i64) 3 w25 w.heap.size (fun k_=>(w.heap.size ≤ k_)) v137 y136):=⟨h0_⟩
                have HO147 : Aside0 (Kd.R Kd.bool 4 w25 w.heap.size (fun k_=>(w.heap.size ≤ k_)) v146 y145):=⟨h1_⟩
                replace HO_4 : Aside0 (Kd.R Kd.string 9 w25 w.heap.size (fun k_=>(w.heap.size ≤ k_)) (.slice (some ad139) t132.length co19) t132):=⟨h2_⟩
                replace BK131 : Aside0 (w25.heap[gb131]? = some o4):=⟨h3_⟩;have BK148 : Aside0 (w25.heap[gb148]? = some o4):=⟨h4_⟩;have GW148 : Aside0 (w.heap.size ≤ gb148):=⟨h5_⟩;have GE148 : Aside0 (w.heap.size ≤ gb148):=⟨h6_⟩;have NB131_148 : Aside0 (gb131 ≠ gb148):=⟨h7_⟩;have NB148_131 : Aside0 (gb148 ≠ gb131):=⟨h8_⟩;replace HB : Aside0 (Below w.heap.size w w25):=⟨h9_⟩;clear h0_ h1_ h2_ h3_ h4_ h5_ h6_ h7_ h8_ h9_;have hHeld : w25.cell? (ad139.add ((ji12)).toNat) = some (.string (rdOf ByteArray.empty t132 (ji12)))∧w25.cell? ad139 = some (.string (rdOf ByteArray.empty t132 0)):=hS_;refine norm_ (a':=?_) ?_ ?_
                rotate_left
                ·simp only [putAll,Act.put,u0,u1,u2]
                 rfl
                refine one_ (i:=7) (N:=some 28) #[y',y',y',y',y',y',y',y',n',y',y',y',y',y',n',y',n'] rfl rfl (one_of HT_.out (by kernel_rfl)) (by decide) (fun K hK=>?_)
                refine goes_ Try.func51 (by kernel_rfl) rfl #[.string (rdOf ByteArray.empty t132 (ji12))] (by rfl) rfl rfl (by (try simp only [List.map_toArray,List.map_cons,List.map_nil]);first|done|(simp only [hji12];rfl)|rfl|(simp only [List.length_drop,List.length_take];rfl)) ?_
                with_reducible refine (spec_l4num.calls kj2 (rdOf ByteArray.empty t132 (ji12)) t140 _ A15.out).mono ?_
                rintro e w26 ⟨rfl,hb⟩
                have HS0_:=z3 hb hHeld.1;have HS1_:=z3 hb hHeld.2;refine ⟨_,rfl,?_⟩
                replace HO_4:=zm (zHb (by exact HO_4.out) hb)
                replace HO138:=zm (zHb (by exact HO138.out) hb)
                replace HO147:=zm (zHb (by exact HO147.out) hb)
                replace BK131:=zm (zL (by exact BK131.out) hb)
                replace BK148:=zm (zL (by exact BK148.out) hb)
                replace HB:=zm (zK (by with_reducible repeat first|exact HB.out|apply zA|apply zB|apply zC) hb)
                (try clear hb);(try clear hb2);(try clear hk);(try clear hi);refine hK.out _ _ ⟨HS0_,HS1_⟩ (fun hHeld=>?_)
                clear hK K;refine norm_ (a':=?_) ?_ ?_
                rotate_left
                ·show Act.put _ (some 28) _ = _
                 simp only [Act.put,u0,u1,u2,i64_w,i32_w]
                 rfl
                exact norm_ (by simp only [putAll,Act.put,u0,u1,u2];try rfl) (hJ0_7_13_15 (v137,v146,gb148) _ ⟨hHeld,(by exact HO138.out),(by exact HO147.out),(by exact HO_4.out),(by exact BK131.out),(by exact BK148.out),GW148.out,GE148.out,NB131_148.out,NB148_131.out,(by with_reducible repeat first|exact HB.out|apply zA|apply zB|apply zC)⟩)
              ·skip
               rintro ⟨v137,gb148⟩ w24 ⟨hS_,h0_,h1_,h2_,h3_,h4_,h5_,h6_,h7_,h8_⟩
               have HO138 : Aside0 (Kd.R (Kd.int .i64) 3 w24 w.heap.size (fun k_=>(w.heap.size ≤ k_)) v137 y136):=⟨h0_⟩
               replace HO_4 : Aside0 (Kd.R Kd.string 9 w24 w.heap.size (fun k_=>(w.heap.size ≤ k_)) (.slice (some ad139) t132.length co19) t132):=⟨h1_⟩
               replace BK131 : Aside0 (w24.heap[gb131]? = some o4):=⟨h2_⟩;have BK148 : Aside0 (w24.heap[gb148]? = some o4):=⟨h3_⟩;have GW148 : Aside0 (w.heap.size ≤ gb148):=⟨h4_⟩;have GE148 : Aside0 (w.heap.size ≤ gb148):=⟨h5_⟩;have NB131_148 : Aside0 (gb131 ≠ gb148):=⟨h6_⟩;have NB148_131 : Aside0 (gb148 ≠ gb131):=⟨h7_⟩;replace HB : Aside0 (Below w.heap.size w w24):=⟨h8_⟩;clear h0_ h1_ h2_ h3_ h4_ h5_ h6_ h7_ h8_;have hHeld : w24.cell? (ad139.add ((ji12)).toNat) = some (.string (rdOf ByteArray.empty t132 (ji12)))∧w24.cell? ad139 = some (.string (rdOf ByteArray.empty t132 0)):=hS_;refine norm_ (a':=?_) ?_ ?_
               rotate_left
               ·simp only [putAll,Act.put,u0,u1,u2]
                rfl
               refine two_ (i:=8) (j:=13) (Ni:=some 29) (Nj:=some 34) #[y',y',y',y',y',y',y',y',y',y',y',y',y',n',n',y',n'] #[y',y',y',y',y',y',y',y',n',y',y',y',y',y',n',y',n'] rfl rfl rfl rfl (two_of HT_.out (by kernel_rfl)) (by decide) (by decide) (fun K hK=>?_) (fun K hK=>?_)
               ·skip
                refine Kd.R_lit_step (Kd.int .i64) _ 3 ?hg (N:=29) ?hd (xs:=([t140] : List Int)) (inner:=[.int .i64 t140]) (ok:=fun _=>True) (okp:=fun _=>True) ?hr ?hp (fun _ hk=>hk) trivial (Below.refl _ _) (Nat.le_refl _) (by simp) ?_;(case hd=>rfl);(case hg=>rfl);(case hr=>first|(go_simp;done)|(go_simp;rfl));(case hp=>exact (Reps.one (show Kd.M (Kd.int .i64) _ _ _ t140 [.int .i64 t140] from rfl) (Reps.none _ _)))
                intro v142 w25 ho26 hb hg_ hnew_
                have HS0_:=z3 hb hHeld.1;have HS1_:=z3 hb hHeld.2;clear hg_ hnew_;(first|rw [← Ny141.out] at ho26|(simp only [Int.reduceToNat] at ho26;rw [← Ny141.out] at ho26))
                have n0_:=zm (zHb (by exact HO_4.out) hb)
                have n1_:=zm (zGb (by exact HO138.out) (zCb ho26) hb)
                have n2_:=zm (zZ (Kd.R_new' (Kd.R_newM (M:=fun k_=>(w.heap.size ≤ k_)) ho26 (zJ (by with_reducible repeat first|exact HB.out|apply zA|apply zB|apply zC)) (fun k_ h_=>h_)) (Kd.R_lt (by exact HO138.out))) (zJ (by with_reducible repeat first|exact HB.out|apply zA|apply zB|apply zC)))
                have n3_:=zm (zL (by exact BK131.out) hb)
                have n4_:=zm (zL (by exact BK148.out) hb)
                have n5_:=zm (zK (by with_reducible repeat first|exact HB.out|apply zA|apply zB|apply zC) hb)
                clear HO_4 HO138 BK131 BK148 HB;have HO_4:=n0_;have HO138:=n1_;have HO143:=n2_;have BK131:=n3_;have BK148:=n4_;have HB:=n5_;clear n0_ n1_ n2_ n3_ n4_ n5_;clear hb ho26;refine hK.out _ _ ⟨HS0_,HS1_⟩ (fun hHeld=>?_)
                clear hK K;refine norm_ (a':=?_) ?_ ?_
                rotate_left
                ·show Act.put _ (some 29) _ = _
                 simp only [Act.put,u0,u1,u2,i64_w,i32_w]
                 rfl
                exact norm_ (by simp only [putAll,Act.put,u0,u1,u2];try rfl) (hJ0_7_8_15 (v137,v142,gb148) _ ⟨hHeld,(by exact HO138.out),(by exact zS HO143.out (fun _ hk=>⟨hk.1.1,hk.2⟩)),(by exact HO_4.out),(by exact BK131.out),(by exact BK148.out),GW148.out,GE148.out,NB131_148.out,NB148_131.out,(by with_reducible repeat first|exact HB.out|apply zA|apply zB|apply zC)⟩)
               ·skip
                refine Kd.R_lit_step Kd.bool _ 4 ?hg (N:=34) ?hd (xs:=([((rdOf ByteArray.empty t132 0).toList == ([111,112,101,110] : List UInt8))] : List Bool)) (inner:=[.bool ((rdOf ByteArray.empty t132 0).toList == ([111,112,101,110] : List UInt8))]) (ok:=fun _=>True) (okp:=fun _=>True) ?hr ?hp (fun _ hk=>hk) trivial (Below.refl _ _) (Nat.le_refl _) (by simp) ?_;(case hd=>rfl);(case hg=>rfl);(case hr=>first|(go_simp;done)|(go_simp;rfl));(case hp=>exact (Reps.one (show Kd.M Kd.bool _ _ _ ((rdOf ByteArray.empty t132 0).toList == ([111,112,101,110] : List UInt8)) [.bool ((rdOf ByteArray.empty t132 0).toList == ([111,112,101,110] : List UInt8))] from rfl) (Reps.none _ _)))
                intro v146 w25 ho26 hb hg_ hnew_
                have HS0_:=z3 hb hHeld.1;have HS1_:=z3 hb hHeld.2;clear hg_ hnew_;(first|rw [← Ny145.out] at ho26|(simp only [Int.reduceToNat] at ho26;rw [← Ny145.out] at ho26))
                replace HO_4:=zm (zHb (by exact HO_4.out) hb)
                replace HO138:=zm (zHb (by exact HO138.out) hb)
                have HO147:=zm (zZ (Kd.R_newM (M:=fun k_=>(w.heap.size ≤ k_)) ho26 (zJ (by with_reducible repeat first|exact HB.out|apply zA|apply zB|apply zC)) (fun k_ h_=>h_)) (zJ (by with_reducible repeat first|exact HB.out|apply zA|apply zB|apply zC)))
                replace BK131:=zm (zL (by exact BK131.out) hb)
                replace BK148:=zm (zL (by exact BK148.out) hb)
                replace HB:=zm (zK (by with_reducible repeat first|exact HB.out|apply zA|apply zB|apply zC) hb)
                clear hb ho26;refine hK.out _ _ ⟨HS0_,HS1_⟩ (fun hHeld=>?_)
                clear hK K;refine norm_ (a':=?_) ?_ ?_
                rotate_left
                ·show Act.put _ (some 34) _ = _
                 simp only [Act.put,u0,u1,u2,i64_w,i32_w]
                 rfl
                exact norm_ (by simp only [putAll,Act.put,u0,u1,u2];try rfl) (hJ0_7_13_15 (v137,v146,gb148) _ ⟨hHeld,(by exact HO138.out),(by exact zS HO147.out (fun _ hk=>hk.1)),(by exact HO_4.out),(by exact BK131.out),(by exact BK148.out),GW148.out,GE148.out,NB131_148.out,NB148_131.out,(by with_reducible repeat first|exact HB.out|apply zA|apply zB|apply zC)⟩)
             ·skip
              rintro ⟨v137,v146⟩ w25 ⟨hS_,h0_,h1_,h2_,h3_,h4_⟩
              have HO138 : Aside0 (Kd.R (Kd.int .i64) 3 w25 w.heap.size (fun k_=>(w.heap.size ≤ k_)) v137 y136):=⟨h0_⟩
              have HO147 : Aside0 (Kd.R Kd.bool 4 w25 w.heap.size (fun k_=>(w.heap.size ≤ k_)) v146 y145):=⟨h1_⟩
              replace HO_4 : Aside0 (Kd.R Kd.string 9 w25 w.heap.size (fun k_=>(w.heap.size ≤ k_)) (.slice (some ad139) t132.length co19) t132):=⟨h2_⟩
              replace BK131 : Aside0 (w25.heap[gb131]? = some o4):=⟨h3_⟩;replace HB : Aside0 (Below w.heap.size w w25):=⟨h4_⟩;clear h0_ h1_ h2_ h3_ h4_;have hHeld : w25.cell? (ad139.add ((ji12)).toNat) = some (.string (rdOf ByteArray.empty t132 (ji12)))∧w25.cell? ad139 = some (.string (rdOf ByteArray.empty t132 0)):=hS_;refine norm_ (a':=?_) ?_ ?_
              rotate_left
              ·simp only [putAll,Act.put,u0,u1,u2]
               rfl
              refine two_ (i:=8) (j:=15) (Ni:=some 29) (Nj:=some 5) #[y',y',y',y',y',y',y',y',y',y',y',y',y',y',n',n',n'] #[y',y',y',y',y',y',y',y',n',y',y',y',y',y',n',y',n'] rfl rfl rfl rfl (two_of HT_.out (by kernel_rfl)) (by decide) (by decide) (fun K hK=>?_) (fun K hK=>?_)
              ·skip
               refine Kd.R_lit_step (Kd.int .i64) _ 3 ?hg (N:=29) ?hd (xs:=([t140] : List Int)) (inner:=[.int .i64 t140]) (ok:=fun _=>True) (okp:=fun _=>True) ?hr ?hp (fun _ hk=>hk) trivial (Below.refl _ _) (Nat.le_refl _) (by simp) ?_;(case hd=>rfl);(case hg=>rfl);(case hr=>first|(go_simp;done)|(go_simp;rfl));(case hp=>exact (Reps.one (show Kd.M (Kd.int .i64) _ _ _ t140 [.int .i64 t140] from rfl) (Reps.none _ _)))
               intro v142 w26 ho27 hb hg_ hnew_
               have HS0_:=z3 hb hHeld.1;have HS1_:=z3 hb hHeld.2;clear hg_ hnew_;(first|rw [← Ny141.out] at ho27|(simp only [Int.reduceToNat] at ho27;rw [← Ny141.out] at ho27))
               have n0_:=zm (zHb (by exact HO_4.out) hb)
               have n1_:=zm (zGb (by exact HO138.out) (zCb ho27) hb)
               have n2_:=zm (zHb (by exact HO147.out) hb)
               have n3_:=zm (zZ (Kd.R_new' (Kd.R_newM (M:=fun k_=>(w.heap.size ≤ k_)) ho27 (zJ (by with_reducible repeat first|exact HB.out|apply zA|apply zB|apply zC)) (fun k_ h_=>h_)) (Kd.R_lt (by exact HO138.out))) (zJ (by with_reducible repeat first|exact HB.out|apply zA|apply zB|apply zC)))
               have n4_:=zm (zL (by exact BK131.out) hb)
               have n5_:=zm (zK (by with_reducible repeat first|exact HB.out|apply zA|apply zB|apply zC) hb)
               clear HO_4 HO138 HO147 BK131 HB;have HO_4:=n0_;have HO138:=n1_;have HO147:=n2_;have HO143:=n3_;have BK131:=n4_;have HB:=n5_;clear n0_ n1_ n2_ n3_ n4_ n5_;clear hb ho27;obtain ⟨Ao28,co28,eo28⟩:=zAb HO147.out;(first|subst eo28|(injection eo28 with f1_ f2_ f3_;have f4_:=f1_.symm;have f5_:=f3_.symm;clear f1_ f2_ f3_;subst f4_;subst f5_))
               obtain ⟨Ao29,co29,eo29⟩:=zAb HO143.out;(first|subst eo29|(injection eo29 with f1_ f2_ f3_;have f4_:=f1_.symm;have f5_:=f3_.symm;clear f1_ f2_ f3_;subst f4_;subst f5_))
               obtain ⟨Ao30,co30,eo30⟩:=zAb HO138.out;(first|subst eo30|(injection eo30 with f1_ f2_ f3_;have f4_:=f1_.symm;have f5_:=f3_.symm;clear f1_ f2_ f3_;subst f4_;subst f5_))
               refine hK.out _ _ ⟨HS0_,HS1_⟩ (fun hHeld=>?_)
               clear hK K;refine norm_ (a':=?_) ?_ ?_
               rotate_left
               ·show Act.put _ (some 29) _ = _
                simp only [Act.put,u0,u1,u2,i64_w,i32_w]
                rfl
               refine pure_ (i:=14) (N:=some 35) (v:=?_) (a':=?_) #[y',y',y',y',y',y',y',y',y',y',y',y',y',y',y',n',n'] rfl rfl (any_of HT_.out (by kernel_rfl)) (fun _ _ _ h=>h) (Or.inl ⟨by rfl,?_⟩) ?_ ?_
               rotate_left
               ·intro w'
                go_simp
                with_reducible rfl
               rotate_left
               ·simp only [Act.put,u0,u1,u2,i64_w,i32_w]
                rfl
               exact norm_ (by simp only [putAll,Act.put,u0,u1,u2];try rfl) (hJ0_7_8_13 (.slice Ao30 y136.length co30,.slice Ao29 y141.length co29,.slice Ao28 y145.length co28) _ ⟨hHeld,(by exact HO138.out),(by exact zS HO143.out (fun _ hk=>⟨hk.1.1,hk.2⟩)),(by exact HO147.out),(by exact HO_4.out),(by exact BK131.out),(by with_reducible repeat first|exact HB.out|apply zA|apply zB|apply zC)⟩)
              ·skip
               refine box_step ?hg (N:=5) ?hd (cs:=#[.slice none 0 0,.slice none 0 0,.slice none 0 0,.slice none 0 0]) (t:=30) ?hr ?_;(case hd=>rfl);(case hg=>rfl);(case hr=>first|(go_simp;done)|(go_simp;rfl))
               intro gb148 hg w26 hbox hb
               have HS0_:=z3 hb hHeld.1;have HS1_:=z3 hb hHeld.2;have n0_:=zm (zHb (by exact HO_4.out) hb)
               have n1_:=zm (zHb (by exact HO138.out) hb)
               have n2_:=zm (zHb (by exact HO147.out) hb)
               have n3_:=zm (zL (by exact BK131.out) hb)
               have n4_:=zm (zK (by with_reducible repeat first|exact HB.out|apply zA|apply zB|apply zC) hb)
               have n5_:=zm (hbox);have n6_:=zm ((by rw [hg];exact (zJ (by with_reducible repeat first|exact HB.out|apply zA|apply zB|apply zC)) : w.heap.size ≤ gb148))
               have n7_:=zm ((by rw [hg];exact (zJ (by with_reducible repeat first|exact HB.out|apply zA|apply zB|apply zC)) : w.heap.size ≤ gb148))
               have n8_:=zm ((by rw [hg];exact Nat.ne_of_lt (blk_lt (by exact BK131.out)) : gb131 ≠ gb148))
               have n9_:=zm ((by rw [hg];exact Nat.ne_of_gt (blk_lt (by exact BK131.out)) : gb148 ≠ gb131))
               clear HO_4 HO138 HO147 BK131 HB;have HO_4:=n0_;have HO138:=n1_;have HO147:=n2_;have BK131:=n3_;have HB:=n4_;have BK148:=n5_;have GW148:=n6_;have GE148:=n7_;have NB131_148:=n8_;have NB148_131:=n9_;clear n0_ n1_ n2_ n3_ n4_ n5_ n6_ n7_ n8_ n9_;clear hb hbox hg;refine hK.out _ _ ⟨HS0_,HS1_⟩ (fun hHeld=>?_)
               clear hK K;refine norm_ (a':=?_) ?_ ?_
               rotate_left
               ·show Act.put _ (some 5) _ = _
                simp only [Act.put,u0,u1,u2,i64_w,i32_w]
                rfl
               exact norm_ (by simp only [putAll,Act.put,u0,u1,u2];try rfl) (hJ0_7_13_15 (v137,v146,gb148) _ ⟨hHeld,(by exact HO138.out),(by exact HO147.out),(by exact HO_4.out),(by exact BK131.out),(by exact BK148.out),GW148.out,GE148.out,NB131_148.out,NB148_131.out,(by with_reducible repeat first|exact HB.out|apply zA|apply zB|apply zC)⟩)
            ·skip
             rintro ⟨v137,v142⟩ w25 ⟨hS_,h0_,h1_,h2_,h3_,h4_⟩
             have HO138 : Aside0 (Kd.R (Kd.int .i64) 3 w25 w.heap.size (fun k_=>(w.heap.size ≤ k_)∧some k_ ≠ (v142 : Value).ownBlock) v137 y136):=⟨h0_⟩
             have HO143 : Aside0 (Kd.R (Kd.int .i64) 3 w25 w.heap.size (fun k_=>(w.heap.size ≤ k_)∧some k_ ≠ (v137 : Value).ownBlock) v142 y141):=⟨h1_⟩
             replace HO_4 : Aside0 (Kd.R Kd.string 9 w25 w.heap.size (fun k_=>(w.heap.size ≤ k_)) (.slice (some ad139) t132.length co19) t132):=⟨h2_⟩
             replace BK131 : Aside0 (w25.heap[gb131]? = some o4):=⟨h3_⟩;replace HB : Aside0 (Below w.heap.size w w25):=⟨h4_⟩;clear h0_ h1_ h2_ h3_ h4_;have hHeld : w25.cell? (ad139.add ((ji12)).toNat) = some (.string (rdOf ByteArray.empty t132 (ji12)))∧w25.cell? ad139 = some (.string (rdOf ByteArray.empty t132 0)):=hS_;refine norm_ (a':=?_) ?_ ?_
             rotate_left
             ·simp only [putAll,Act.put,u0,u1,u2]
              rfl
             refine two_ (i:=13) (j:=15) (Ni:=some 34) (Nj:=some 5) #[y',y',y',y',y',y',y',y',y',y',y',y',y',y',n',n',n'] #[y',y',y',y',y',y',y',y',y',y',y',y',y',n',n',y',n'] rfl rfl rfl rfl (two_of HT_.out (by kernel_rfl)) (by decide) (by decide) (fun K hK=>?_) (fun K hK=>?_)
             ·skip
              refine Kd.R_lit_step Kd.bool _ 4 ?hg (N:=34) ?hd (xs:=([((rdOf ByteArray.empty t132 0).toList == ([111,112,101,110] : List UInt8))] : List Bool)) (inner:=[.bool ((rdOf ByteArray.empty t132 0).toList == ([111,112,101,110] : List UInt8))]) (ok:=fun _=>True) (okp:=fun _=>True) ?hr ?hp (fun _ hk=>hk) trivial (Below.refl _ _) (Nat.le_refl _) (by simp) ?_;(case hd=>rfl);(case hg=>rfl);(case hr=>first|(go_simp;done)|(go_simp;rfl));(case hp=>exact (Reps.one (show Kd.M Kd.bool _ _ _ ((rdOf ByteArray.empty t132 0).toList == ([111,112,101,110] : List UInt8)) [.bool ((rdOf ByteArray.empty t132 0).toList == ([111,112,101,110] : List UInt8))] from rfl) (Reps.none _ _)))
              intro v146 w26 ho27 hb hg_ hnew_
              have HS0_:=z3 hb hHeld.1;have HS1_:=z3 hb hHeld.2;clear hg_ hnew_;(first|rw [← Ny145.out] at ho27|(simp only [Int.reduceToNat] at ho27;rw [← Ny145.out] at ho27))
              replace HO_4:=zm (zHb (by exact HO_4.out) hb)
              replace HO138:=zm (zHb (by exact HO138.out) hb)
              replace HO143:=zm (zHb (by exact HO143.out) hb)
              have HO147:=zm (zZ (Kd.R_newM (M:=fun k_=>(w.heap.size ≤ k_)) ho27 (zJ (by with_reducible repeat first|exact HB.out|apply zA|apply zB|apply zC)) (fun k_ h_=>h_)) (zJ (by with_reducible repeat first|exact HB.out|apply zA|apply zB|apply zC)))
              replace BK131:=zm (zL (by exact BK131.out) hb)
              replace HB:=zm (zK (by with_reducible repeat first|exact HB.out|apply zA|apply zB|apply zC) hb)
              clear hb ho27;obtain ⟨Ao28,co28,eo28⟩:=zAb HO147.out;(first|subst eo28|(injection eo28 with f1_ f2_ f3_;have f4_:=f1_.symm;have f5_:=f3_.symm;clear f1_ f2_ f3_;subst f4_;subst f5_))
              obtain ⟨Ao29,co29,eo29⟩:=zAb HO143.out;(first|subst eo29|(injection eo29 with f1_ f2_ f3_;have f4_:=f1_.symm;have f5_:=f3_.symm;clear f1_ f2_ f3_;subst f4_;subst f5_))
              obtain ⟨Ao30,co30,eo30⟩:=zAb HO138.out;(first|subst eo30|(injection eo30 with f1_ f2_ f3_;have f4_:=f1_.symm;have f5_:=f3_.symm;clear f1_ f2_ f3_;subst f4_;subst f5_))
              refine hK.out _ _ ⟨HS0_,HS1_⟩ (fun hHeld=>?_)
              clear hK K;refine norm_ (a':=?_) ?_ ?_
              rotate_left
              ·show Act.put _ (some 34) _ = _
               simp only [Act.put,u0,u1,u2,i64_w,i32_w]
               rfl
              refine pure_ (i:=14) (N:=some 35) (v:=?_) (a':=?_) #[y',y',y',y',y',y',y',y',y',y',y',y',y',y',y',n',n'] rfl rfl (any_of HT_.out (by kernel_rfl)) (fun _ _ _ h=>h) (Or.inl ⟨by rfl,?_⟩) ?_ ?_
              rotate_left
              ·intro w'
               go_simp
               with_reducible rfl
              rotate_left
              ·simp only [Act.put,u0,u1,u2,i64_w,i32_w]
               rfl
              exact norm_ (by simp only [putAll,Act.put,u0,u1,u2];try rfl) (hJ0_7_8_13 (.slice Ao30 y136.length co30,.slice Ao29 y141.length co29,.slice Ao28 y145.length co28) _ ⟨hHeld,(by exact HO138.out),(by exact HO143.out),(by exact zS HO147.out (fun _ hk=>hk.1)),(by exact HO_4.out),(by exact BK131.out),(by with_reducible repeat first|exact HB.out|apply zA|apply zB|apply zC)⟩)
             ·skip
              refine box_step ?hg (N:=5) ?hd (cs:=#[.slice none 0 0,.slice none 0 0,.slice none 0 0,.slice none 0 0]) (t:=30) ?hr ?_;(case hd=>rfl);(case hg=>rfl);(case hr=>first|(go_simp;done)|(go_simp;rfl))
              intro gb148 hg w26 hbox hb
              have HS0_:=z3 hb hHeld.1;have HS1_:=z3 hb hHeld.2;have n0_:=zm (zHb (by exact HO_4.out) hb)
              have n1_:=zm (zHb (by exact HO138.out) hb)
              have n2_:=zm (zHb (by exact HO143.out) hb)
              have n3_:=zm (zL (by exact BK131.out) hb)
              have n4_:=zm (zK (by with_reducible repeat first|exact HB.out|apply zA|apply zB|apply zC) hb)
              have n5_:=zm (hbox);have n6_:=zm ((by rw [hg];exact (zJ (by with_reducible repeat first|exact HB.out|apply zA|apply zB|apply zC)) : w.heap.size ≤ gb148))
              have n7_:=zm ((by rw [hg];exact (zJ (by with_reducible repeat first|exact HB.out|apply zA|apply zB|apply zC)) : w.heap.size ≤ gb148))
              have n8_:=zm ((by rw [hg];exact Nat.ne_of_lt (blk_lt (by exact BK131.out)) : gb131 ≠ gb148))
              have n9_:=zm ((by rw [hg];exact Nat.ne_of_gt (blk_lt (by exact BK131.out)) : gb148 ≠ gb131))
              clear HO_4 HO138 HO143 BK131 HB;have HO_4:=n0_;have HO138:=n1_;have HO143:=n2_;have BK131:=n3_;have HB:=n4_;have BK148:=n5_;have GW148:=n6_;have GE148:=n7_;have NB131_148:=n8_;have NB148_131:=n9_;clear n0_ n1_ n2_ n3_ n4_ n5_ n6_ n7_ n8_ n9_;clear hb hbox hg;refine hK.out _ _ ⟨HS0_,HS1_⟩ (fun hHeld=>?_)
              clear hK K;refine norm_ (a':=?_) ?_ ?_
              rotate_left
              ·show Act.put _ (some 5) _ = _
               simp only [Act.put,u0,u1,u2,i64_w,i32_w]
               rfl
              exact norm_ (by simp only [putAll,Act.put,u0,u1,u2];try rfl) (hJ0_7_8_15 (v137,v142,gb148) _ ⟨hHeld,(by exact HO138.out),(by exact HO143.out),(by exact HO_4.out),(by exact BK131.out),(by exact BK148.out),GW148.out,GE148.out,NB131_148.out,NB148_131.out,(by with_reducible repeat first|exact HB.out|apply zA|apply zB|apply zC)⟩)
           ·skip
            rintro ⟨v142,v146,gb148⟩ w26 ⟨hS_,h0_,h1_,h2_,h3_,h4_,h5_,h6_,h7_,h8_,h9_⟩
            have HO143 : Aside0 (Kd.R (Kd.int .i64) 3 w26 w.heap.size (fun k_=>(w.heap.size ≤ k_)) v142 y141):=⟨h0_⟩
            have HO147 : Aside0 (Kd.R Kd.bool 4 w26 w.heap.size (fun k_=>(w.heap.size ≤ k_)) v146 y145):=⟨h1_⟩
            replace HO_4 : Aside0 (Kd.R Kd.string 9 w26 w.heap.size (fun k_=>(w.heap.size ≤ k_)) (.slice (some ad139) t132.length co19) t132):=⟨h2_⟩
            replace BK131 : Aside0 (w26.heap[gb131]? = some o4):=⟨h3_⟩;have BK148 : Aside0 (w26.heap[gb148]? = some o4):=⟨h4_⟩;have GW148 : Aside0 (w.heap.size ≤ gb148):=⟨h5_⟩;have GE148 : Aside0 (w.heap.size ≤ gb148):=⟨h6_⟩;have NB131_148 : Aside0 (gb131 ≠ gb148):=⟨h7_⟩;have NB148_131 : Aside0 (gb148 ≠ gb131):=⟨h8_⟩;replace HB : Aside0 (Below w.heap.size w w26):=⟨h9_⟩;clear h0_ h1_ h2_ h3_ h4_ h5_ h6_ h7_ h8_ h9_;have hHeld : w26.cell? (ad139.add ((ji12)).toNat) = some (.string (rdOf ByteArray.empty t132 (ji12)))∧w26.cell? ad139 = some (.string (rdOf ByteArray.empty t132 0)):=hS_;refine norm_ (a':=?_) ?_ ?_
            rotate_left
            ·simp only [putAll,Act.put,u0,u1,u2]
             rfl
            refine one_ (i:=0) (N:=some 21) #[y',y',y',y',y',y',y',y',y',y',y',y',y',y',n',y',n'] rfl rfl (one_of HT_.out (by kernel_rfl)) (by decide) (fun K hK=>?_)
            refine Kd.R_lit_step (Kd.int .i64) _ 3 ?hg (N:=21) ?hd (xs:=([(-1)] : List Int)) (inner:=[.int .i64 (-1)]) (ok:=fun _=>True) (okp:=fun _=>True) ?hr ?hp (fun _ hk=>hk) trivial (Below.refl _ _) (Nat.le_refl _) (by simp) ?_;(case hd=>rfl);(case hg=>rfl);(case hr=>first|(go_simp;done)|(go_simp;rfl));(case hp=>exact (Reps.one (show Kd.M (Kd.int .i64) _ _ _ (-1) [.int .i64 (-1)] from rfl) (Reps.none _ _)))
            intro v137 w27 ho28 hb hg_ hnew_
            have HS0_:=z3 hb hHeld.1;have HS1_:=z3 hb hHeld.2;clear hg_ hnew_;(first|rw [← Ny136.out] at ho28|(simp only [Int.reduceToNat] at ho28;rw [← Ny136.out] at ho28))
            have n0_:=zm (zHb (by exact HO_4.out) hb)
            have n1_:=zm (zGb (by exact HO143.out) (zCb ho28) hb)
            have n2_:=zm (zHb (by exact HO147.out) hb)
            have n3_:=zm (zZ (Kd.R_new' (Kd.R_newM (M:=fun k_=>(w.heap.size ≤ k_)) ho28 (zJ (by with_reducible repeat first|exact HB.out|apply zA|apply zB|apply zC)) (fun k_ h_=>h_)) (Kd.R_lt (by exact HO143.out))) (zJ (by with_reducible repeat first|exact HB.out|apply zA|apply zB|apply zC)))
            have n4_:=zm (zL (by exact BK131.out) hb)
            have n5_:=zm (zL (by exact BK148.out) hb)
            have n6_:=zm (zK (by with_reducible repeat first|exact HB.out|apply zA|apply zB|apply zC) hb)
            clear HO_4 HO143 HO147 BK131 BK148 HB;have HO_4:=n0_;have HO143:=n1_;have HO147:=n2_;have HO138:=n3_;have BK131:=n4_;have BK148:=n5_;have HB:=n6_;clear n0_ n1_ n2_ n3_ n4_ n5_ n6_;clear hb ho28;obtain ⟨Ao29,co29,eo29⟩:=zAb HO147.out;(first|subst eo29|(injection eo29 with f1_ f2_ f3_;have f4_:=f1_.symm;have f5_:=f3_.symm;clear f1_ f2_ f3_;subst f4_;subst f5_))
            obtain ⟨Ao30,co30,eo30⟩:=zAb HO143.out;(first|subst eo30|(injection eo30 with f1_ f2_ f3_;have f4_:=f1_.symm;have f5_:=f3_.symm;clear f1_ f2_ f3_;subst f4_;subst f5_))
            obtain ⟨Ao31,co31,eo31⟩:=zAb HO138.out;(first|subst eo31|(injection eo31 with f1_ f2_ f3_;have f4_:=f1_.symm;have f5_:=f3_.symm;clear f1_ f2_ f3_;subst f4_;subst f5_))
            refine hK.out _ _ ⟨HS0_,HS1_⟩ (fun hHeld=>?_)
            clear hK K;refine norm_ (a':=?_) ?_ ?_
            rotate_left
            ·show Act.put _ (some 21) _ = _
             simp only [Act.put,u0,u1,u2,i64_w,i32_w]
             rfl
            refine pure_ (i:=14) (N:=some 35) (v:=?_) (a':=?_) #[y',y',y',y',y',y',y',y',y',y',y',y',y',y',y',y',n'] rfl rfl (any_of HT_.out (by kernel_rfl)) (fun _ _ _ h=>h) (Or.inl ⟨by rfl,?_⟩) ?_ ?_
            rotate_left
            ·intro w'
             go_simp
             with_reducible rfl
            rotate_left
            ·simp only [Act.put,u0,u1,u2,i64_w,i32_w]
             rfl
            exact norm_ (by simp only [putAll,Act.put,u0,u1,u2];try rfl) (hJ0_7_8_13_15 (.slice Ao31 y136.length co31,.slice Ao30 y141.length co30,.slice Ao29 y145.length co29,gb148) _ ⟨hHeld,(by exact zS HO138.out (fun _ hk=>⟨hk.1.1,hk.2⟩)),(by exact HO143.out),(by exact HO147.out),(by exact HO_4.out),(by exact BK131.out),(by exact BK148.out),GW148.out,GE148.out,NB131_148.out,NB148_131.out,(by with_reducible repeat first|exact HB.out|apply zA|apply zB|apply zC)⟩)
          ·skip
           rintro ⟨v137,v146,gb148⟩ w26 ⟨hS_,h0_,h1_,h2_,h3_,h4_,h5_,h6_,h7_,h8_,h9_⟩
           have HO138 : Aside0 (Kd.R (Kd.int .i64) 3 w26 w.heap.size (fun k_=>(w.heap.size ≤ k_)) v137 y136):=⟨h0_⟩
           have HO147 : Aside0 (Kd.R Kd.bool 4 w26 w.heap.size (fun k_=>(w.heap.size ≤ k_)) v146 y145):=⟨h1_⟩
           replace HO_4 : Aside0 (Kd.R Kd.string 9 w26 w.heap.size (fun k_=>(w.heap.size ≤ k_)) (.slice (some ad139) t132.length co19) t132):=⟨h2_⟩
           replace BK131 : Aside0 (w26.heap[gb131]? = some o4):=⟨h3_⟩;have BK148 : Aside0 (w26.heap[gb148]? = some o4):=⟨h4_⟩;have GW148 : Aside0 (w.heap.size ≤ gb148):=⟨h5_⟩;have GE148 : Aside0 (w.heap.size ≤ gb148):=⟨h6_⟩;have NB131_148 : Aside0 (gb131 ≠ gb148):=⟨h7_⟩;have NB148_131 : Aside0 (gb148 ≠ gb131):=⟨h8_⟩;replace HB : Aside0 (Below w.heap.size w w26):=⟨h9_⟩;clear h0_ h1_ h2_ h3_ h4_ h5_ h6_ h7_ h8_ h9_;have hHeld : w26.cell? (ad139.add ((ji12)).toNat) = some (.string (rdOf ByteArray.empty t132 (ji12)))∧w26.cell? ad139 = some (.string (rdOf ByteArray.empty t132 0)):=hS_;refine norm_ (a':=?_) ?_ ?_
           rotate_left
           ·simp only [putAll,Act.put,u0,u1,u2]
            rfl
           refine one_ (i:=8) (N:=some 29) #[y',y',y',y',y',y',y',y',y',y',y',y',y',y',n',y',n'] rfl rfl (one_of HT_.out (by kernel_rfl)) (by decide) (fun K hK=>?_)
           refine Kd.R_lit_step (Kd.int .i64) _ 3 ?hg (N:=29) ?hd (xs:=([t140] : List Int)) (inner:=[.int .i64 t140]) (ok:=fun _=>True) (okp:=fun _=>True) ?hr ?hp (fun _ hk=>hk) trivial (Below.refl _ _) (Nat.le_refl _) (by simp) ?_;(case hd=>rfl);(case hg=>rfl);(case hr=>first|(go_simp;done)|(go_simp;rfl));(case hp=>exact (Reps.one (show Kd.M (Kd.int .i64) _ _ _ t140 [.int .i64 t140] from rfl) (Reps.none _ _)))
           intro v142 w27 ho28 hb hg_ hnew_
           have HS0_:=z3 hb hHeld.1;have HS1_:=z3 hb hHeld.2;clear hg_ hnew_;(first|rw [← Ny141.out] at ho28|(simp only [Int.reduceToNat] at ho28;rw [← Ny141.out] at ho28))
           have n0_:=zm (zHb (by exact HO_4.out) hb)
           have n1_:=zm (zGb (by exact HO138.out) (zCb ho28) hb)
           have n2_:=zm (zHb (by exact HO147.out) hb)
           have n3_:=zm (zZ (Kd.R_new' (Kd.R_newM (M:=fun k_=>(w.heap.size ≤ k_)) ho28 (zJ (by with_reducible repeat first|exact HB.out|apply zA|apply zB|apply zC)) (fun k_ h_=>h_)) (Kd.R_lt (by exact HO138.out))) (zJ (by with_reducible repeat first|exact HB.out|apply zA|apply zB|apply zC)))
           have n4_:=zm (zL (by exact BK131.out) hb)
           have n5_:=zm (zL (by exact BK148.out) hb)
           have n6_:=zm (zK (by with_reducible repeat first|exact HB.out|apply zA|apply zB|apply zC) hb)
           clear HO_4 HO138 HO147 BK131 BK148 HB;have HO_4:=n0_;have HO138:=n1_;have HO147:=n2_;have HO143:=n3_;have BK131:=n4_;have BK148:=n5_;have HB:=n6_;clear n0_ n1_ n2_ n3_ n4_ n5_ n6_;clear hb ho28;obtain ⟨Ao29,co29,eo29⟩:=zAb HO147.out;(first|subst eo29|(injection eo29 with f1_ f2_ f3_;have f4_:=f1_.symm;have f5_:=f3_.symm;clear f1_ f2_ f3_;subst f4_;subst f5_))
           obtain ⟨Ao30,co30,eo30⟩:=zAb HO143.out;(first|subst eo30|(injection eo30 with f1_ f2_ f3_;have f4_:=f1_.symm;have f5_:=f3_.symm;clear f1_ f2_ f3_;subst f4_;subst f5_))
           obtain ⟨Ao31,co31,eo31⟩:=zAb HO138.out;(first|subst eo31|(injection eo31 with f1_ f2_ f3_;have f4_:=f1_.symm;have f5_:=f3_.symm;clear f1_ f2_ f3_;subst f4_;subst f5_))
           refine hK.out _ _ ⟨HS0_,HS1_⟩ (fun hHeld=>?_)
           clear hK K;refine norm_ (a':=?_) ?_ ?_
           rotate_left
           ·show Act.put _ (some 29) _ = _
            simp only [Act.put,u0,u1,u2,i64_w,i32_w]
            rfl
           refine pure_ (i:=14) (N:=some 35) (v:=?_) (a':=?_) #[y',y',y',y',y',y',y',y',y',y',y',y',y',y',y',y',n'] rfl rfl (any_of HT_.out (by kernel_rfl)) (fun _ _ _ h=>h) (Or.inl ⟨by rfl,?_⟩) ?_ ?_
           rotate_left
           ·intro w'
            go_simp
            with_reducible rfl
           rotate_left
           ·simp only [Act.put,u0,u1,u2,i64_w,i32_w]
            rfl
           exact norm_ (by simp only [putAll,Act.put,u0,u1,u2];try rfl) (hJ0_7_8_13_15 (.slice Ao31 y136.length co31,.slice Ao30 y141.length co30,.slice Ao29 y145.length co29,gb148) _ ⟨hHeld,(by exact HO138.out),(by exact zS HO143.out (fun _ hk=>⟨hk.1.1,hk.2⟩)),(by exact HO147.out),(by exact HO_4.out),(by exact BK131.out),(by exact BK148.out),GW148.out,GE148.out,NB131_148.out,NB148_131.out,(by with_reducible repeat first|exact HB.out|apply zA|apply zB|apply zC)⟩)
         ·skip
          rintro ⟨v137,v142,gb148⟩ w26 ⟨hS_,h0_,h1_,h2_,h3_,h4_,h5_,h6_,h7_,h8_,h9_⟩
          have HO138 : Aside0 (Kd.R (Kd.int .i64) 3 w26 w.heap.size (fun k_=>(w.heap.size ≤ k_)∧some k_ ≠ (v142 : Value).ownBlock) v137 y136):=⟨h0_⟩
          have HO143 : Aside0 (Kd.R (Kd.int .i64) 3 w26 w.heap.size (fun k_=>(w.heap.size ≤ k_)∧some k_ ≠ (v137 : Value).ownBlock) v142 y141):=⟨h1_⟩
          replace HO_4 : Aside0 (Kd.R Kd.string 9 w26 w.heap.size (fun k_=>(w.heap.size ≤ k_)) (.slice (some ad139) t132.length co19) t132):=⟨h2_⟩
          replace BK131 : Aside0 (w26.heap[gb131]? = some o4):=⟨h3_⟩;have BK148 : Aside0 (w26.heap[gb148]? = some o4):=⟨h4_⟩;have GW148 : Aside0 (w.heap.size ≤ gb148):=⟨h5_⟩;have GE148 : Aside0 (w.heap.size ≤ gb148):=⟨h6_⟩;have NB131_148 : Aside0 (gb131 ≠ gb148):=⟨h7_⟩;have NB148_131 : Aside0 (gb148 ≠ gb131):=⟨h8_⟩;replace HB : Aside0 (Below w.heap.size w w26):=⟨h9_⟩;clear h0_ h1_ h2_ h3_ h4_ h5_ h6_ h7_ h8_ h9_;have hHeld : w26.cell? (ad139.add ((ji12)).toNat) = some (.string (rdOf ByteArray.empty t132 (ji12)))∧w26.cell? ad139 = some (.string (rdOf ByteArray.empty t132 0)):=hS_;refine norm_ (a':=?_) ?_ ?_
          rotate_left
          ·simp only [putAll,Act.put,u0,u1,u2]
           rfl
          refine one_ (i:=13) (N:=some 34) #[y',y',y',y',y',y',y',y',y',y',y',y',y',y',n',y',n'] rfl rfl (one_of HT_.out (by kernel_rfl)) (by decide) (fun K hK=>?_)
          refine Kd.R_lit_step Kd.bool _ 4 ?hg (N:=34) ?hd (xs:=([((rdOf ByteArray.empty t132 0).toList == ([111,112,101,110] : List UInt8))] : List Bool)) (inner:=[.bool ((rdOf ByteArray.empty t132 0).toList == ([111,112,101,110] : List UInt8))]) (ok:=fun _=>True) (okp:=fun _=>True) ?hr ?hp (fun _ hk=>hk) trivial (Below.refl _ _) (Nat.le_refl _) (by simp) ?_;(case hd=>rfl);(case hg=>rfl);(case hr=>first|(go_simp;done)|(go_simp;rfl));(case hp=>exact (Reps.one (show Kd.M Kd.bool _ _ _ ((rdOf ByteArray.empty t132 0).toList == ([111,112,101,110] : List UInt8)) [.bool ((rdOf ByteArray.empty t132 0).toList == ([111,112,101,110] : List UInt8))] from rfl) (Reps.none _ _)))
          intro v146 w27 ho28 hb hg_ hnew_
          have HS0_:=z3 hb hHeld.1;have HS1_:=z3 hb hHeld.2;clear hg_ hnew_;(first|rw [← Ny145.out] at ho28|(simp only [Int.reduceToNat] at ho28;rw [← Ny145.out] at ho28))
          replace HO_4:=zm (zHb (by exact HO_4.out) hb)
          replace HO138:=zm (zHb (by exact HO138.out) hb)
          replace HO143:=zm (zHb (by exact HO143.out) hb)
          have HO147:=zm (zZ (Kd.R_newM (M:=fun k_=>(w.heap.size ≤ k_)) ho28 (zJ (by with_reducible repeat first|exact HB.out|apply zA|apply zB|apply zC)) (fun k_ h_=>h_)) (zJ (by with_reducible repeat first|exact HB.out|apply zA|apply zB|apply zC)))
          replace BK131:=zm (zL (by exact BK131.out) hb)
          replace BK148:=zm (zL (by exact BK148.out) hb)
          replace HB:=zm (zK (by with_reducible repeat first|exact HB.out|apply zA|apply zB|apply zC) hb)
          clear hb ho28;obtain ⟨Ao29,co29,eo29⟩:=zAb HO147.out;(first|subst eo29|(injection eo29 with f1_ f2_ f3_;have f4_:=f1_.symm;have f5_:=f3_.symm;clear f1_ f2_ f3_;subst f4_;subst f5_))
          obtain ⟨Ao30,co30,eo30⟩:=zAb HO143.out;(first|subst eo30|(injection eo30 with f1_ f2_ f3_;have f4_:=f1_.symm;have f5_:=f3_.symm;clear f1_ f2_ f3_;subst f4_;subst f5_))
          obtain ⟨Ao31,co31,eo31⟩:=zAb HO138.out;(first|subst eo31|(injection eo31 with f1_ f2_ f3_;have f4_:=f1_.symm;have f5_:=f3_.symm;clear f1_ f2_ f3_;subst f4_;subst f5_))
          refine hK.out _ _ ⟨HS0_,HS1_⟩ (fun hHeld=>?_)
          clear hK K;refine norm_ (a':=?_) ?_ ?_
          rotate_left
          ·show Act.put _ (some 34) _ = _
           simp only [Act.put,u0,u1,u2,i64_w,i32_w]
           rfl
          refine pure_ (i:=14) (N:=some 35) (v:=?_) (a':=?_) #[y',y',y',y',y',y',y',y',y',y',y',y',y',y',y',y',n'] rfl rfl (any_of HT_.out (by kernel_rfl)) (fun _ _ _ h=>h) (Or.inl ⟨by rfl,?_⟩) ?_ ?_
          rotate_left
          ·intro w'
           go_simp
           with_reducible rfl
          rotate_left
          ·simp only [Act.put,u0,u1,u2,i64_w,i32_w]
           rfl
          exact norm_ (by simp only [putAll,Act.put,u0,u1,u2];try rfl) (hJ0_7_8_13_15 (.slice Ao31 y136.length co31,.slice Ao30 y141.length co30,.slice Ao29 y145.length co29,gb148) _ ⟨hHeld,(by exact HO138.out),(by exact HO143.out),(by exact zS HO147.out (fun _ hk=>hk.1)),(by exact HO_4.out),(by exact BK131.out),(by exact BK148.out),GW148.out,GE148.out,NB131_148.out,NB148_131.out,(by with_reducible repeat first|exact HB.out|apply zA|apply zB|apply zC)⟩)
        ·skip
         rintro ⟨v137,v142,v146⟩ w30 ⟨hS_,h0_,h1_,h2_,h3_,h4_,h5_⟩
         have HO138 : Aside0 (Kd.R (Kd.int .i64) 3 w30 w.heap.size (fun k_=>(w.heap.size ≤ k_)∧some k_ ≠ (v142 : Value).ownBlock) v137 y136):=⟨h0_⟩
         have HO143 : Aside0 (Kd.R (Kd.int .i64) 3 w30 w.heap.size (fun k_=>(w.heap.size ≤ k_)∧some k_ ≠ (v137 : Value).ownBlock) v142 y141):=⟨h1_⟩
         have HO147 : Aside0 (Kd.R Kd.bool 4 w30 w.heap.size (fun k_=>(w.heap.size ≤ k_)) v146 y145):=⟨h2_⟩
         replace HO_4 : Aside0 (Kd.R Kd.string 9 w30 w.heap.size (fun k_=>(w.heap.size ≤ k_)) (.slice (some ad139) t132.length co19) t132):=⟨h3_⟩
         replace BK131 : Aside0 (w30.heap[gb131]? = some o4):=⟨h4_⟩;replace HB : Aside0 (Below w.heap.size w w30):=⟨h5_⟩;clear h0_ h1_ h2_ h3_ h4_ h5_;have hHeld : w30.cell? (ad139.add ((ji12)).toNat) = some (.string (rdOf ByteArray.empty t132 (ji12)))∧w30.cell? ad139 = some (.string (rdOf ByteArray.empty t132 0)):=hS_;obtain ⟨Ao31,co31,eo31⟩:=zAb HO147.out;(first|subst eo31|(injection eo31 with f1_ f2_ f3_;have f4_:=f1_.symm;have f5_:=f3_.symm;clear f1_ f2_ f3_;subst f4_;subst f5_))
         obtain ⟨Ao32,co32,eo32⟩:=zAb HO143.out;(first|subst eo32|(injection eo32 with f1_ f2_ f3_;have f4_:=f1_.symm;have f5_:=f3_.symm;clear f1_ f2_ f3_;subst f4_;subst f5_))
         obtain ⟨Ao33,co33,eo33⟩:=zAb HO138.out;(first|subst eo33|(injection eo33 with f1_ f2_ f3_;have f4_:=f1_.symm;have f5_:=f3_.symm;clear f1_ f2_ f3_;subst f4_;subst f5_))
         refine norm_ (a':=?_) ?_ ?_
         rotate_left
         ·simp only [putAll,Act.put,u0,u1,u2]
          rfl
         refine one_ (i:=15) (N:=some 5) #[y',y',y',y',y',y',y',y',y',y',y',y',y',y',y',y',n'] rfl rfl (one_of HT_.out (by kernel_rfl)) (by decide) (fun K hK=>?_)
         refine box_step ?hg (N:=5) ?hd (cs:=#[.slice none 0 0,.slice none 0 0,.slice none 0 0,.slice none 0 0]) (t:=30) ?hr ?_;(case hd=>rfl);(case hg=>rfl);(case hr=>first|(go_simp;done)|(go_simp;rfl))
         intro gb148 hg w34 hbox hb
         have HS0_:=z3 hb hHeld.1;have HS1_:=z3 hb hHeld.2;have n0_:=zm (zHb (by exact HO_4.out) hb)
         have n1_:=zm (zHb (by exact HO138.out) hb)
         have n2_:=zm (zHb (by exact HO143.out) hb)
         have n3_:=zm (zHb (by exact HO147.out) hb)
         have n4_:=zm (zL (by exact BK131.out) hb)
         have n5_:=zm (zK (by with_reducible repeat first|exact HB.out|apply zA|apply zB|apply zC) hb)
         have n6_:=zm (hbox);have n7_:=zm ((by rw [hg];exact (zJ (by with_reducible repeat first|exact HB.out|apply zA|apply zB|apply zC)) : w.heap.size ≤ gb148))
         have n8_:=zm ((by rw [hg];exact (zJ (by with_reducible repeat first|exact HB.out|apply zA|apply zB|apply zC)) : w.heap.size ≤ gb148))
         have n9_:=zm ((by rw [hg];exact Nat.ne_of_lt (blk_lt (by exact BK131.out)) : gb131 ≠ gb148))
         have n10_:=zm ((by rw [hg];exact Nat.ne_of_gt (blk_lt (by exact BK131.out)) : gb148 ≠ gb131))
         clear HO_4 HO138 HO143 HO147 BK131 HB;have HO_4:=n0_;have HO138:=n1_;have HO143:=n2_;have HO147:=n3_;have BK131:=n4_;have HB:=n5_;have BK148:=n6_;have GW148:=n7_;have GE148:=n8_;have NB131_148:=n9_;have NB148_131:=n10_;clear n0_ n1_ n2_ n3_ n4_ n5_ n6_ n7_ n8_ n9_ n10_;clear hb hbox hg;refine hK.out _ _ ⟨HS0_,HS1_⟩ (fun hHeld=>?_)
         clear hK K;refine norm_ (a':=?_) ?_ ?_
         rotate_left
         ·show Act.put _ (some 5) _ = _
          simp only [Act.put,u0,u1,u2,i64_w,i32_w]
          rfl
         exact norm_ (by simp only [putAll,Act.put,u0,u1,u2];try rfl) (hJ0_7_8_13_15 (.slice Ao33 y136.length co33,.slice Ao32 y141.length co32,.slice Ao31 y145.length co31,gb148) _ ⟨hHeld,(by exact HO138.out),(by exact HO143.out),(by exact HO147.out),(by exact HO_4.out),(by exact BK131.out),(by exact BK148.out),GW148.out,GE148.out,NB131_148.out,NB148_131.out,(by with_reducible repeat first|exact HB.out|apply zA|apply zB|apply zC)⟩)
       rintro ⟨v137,v142,v146,gb148⟩ w31 ⟨hS_,h0_,h1_,h2_,h3_,h4_,h5_,h6_,h7_,h8_,h9_,h10_⟩
       have HO138 : Aside0 (Kd.R (Kd.int .i64) 3 w31 w.heap.size (fun k_=>(w.heap.size ≤ k_)∧some k_ ≠ (v142 : Value).ownBlock) v137 y136):=⟨h0_⟩
       have HO143 : Aside0 (Kd.R (Kd.int .i64) 3 w31 w.heap.size (fun k_=>(w.heap.size ≤ k_)∧some k_ ≠ (v137 : Value).ownBlock) v142 y141):=⟨h1_⟩
       have HO147 : Aside0 (Kd.R Kd.bool 4 w31 w.heap.size (fun k_=>(w.heap.size ≤ k_)) v146 y145):=⟨h2_⟩
       replace HO_4 : Aside0 (Kd.R Kd.string 9 w31 w.heap.size (fun k_=>(w.heap.size ≤ k_)) (.slice (some ad139) t132.length co19) t132):=⟨h3_⟩
       replace BK131 : Aside0 (w31.heap[gb131]? = some o4):=⟨h4_⟩;have BK148 : Aside0 (w31.heap[gb148]? = some o4):=⟨h5_⟩;have GW148 : Aside0 (w.heap.size ≤ gb148):=⟨h6_⟩;have GE148 : Aside0 (w.heap.size ≤ gb148):=⟨h7_⟩;have NB131_148 : Aside0 (gb131 ≠ gb148):=⟨h8_⟩;have NB148_131 : Aside0 (gb148 ≠ gb131):=⟨h9_⟩;replace HB : Aside0 (Below w.heap.size w w31):=⟨h10_⟩;clear h0_ h1_ h2_ h3_ h4_ h5_ h6_ h7_ h8_ h9_ h10_;have hHeld : w31.cell? (ad139.add ((ji12)).toNat) = some (.string (rdOf ByteArray.empty t132 (ji12)))∧w31.cell? ad139 = some (.string (rdOf ByteArray.empty t132 0)):=hS_;obtain ⟨Ao32,co32,eo32⟩:=zAb HO147.out;(first|subst eo32|(injection eo32 with f1_ f2_ f3_;have f4_:=f1_.symm;have f5_:=f3_.symm;clear f1_ f2_ f3_;subst f4_;subst f5_))
       obtain ⟨Ao33,co33,eo33⟩:=zAb HO143.out;(first|subst eo33|(injection eo33 with f1_ f2_ f3_;have f4_:=f1_.symm;have f5_:=f3_.symm;clear f1_ f2_ f3_;subst f4_;subst f5_))
       obtain ⟨Ao34,co34,eo34⟩:=zAb HO138.out;(first|subst eo34|(injection eo34 with f1_ f2_ f3_;have f4_:=f1_.symm;have f5_:=f3_.symm;clear f1_ f2_ f3_;subst f4_;subst f5_))
       refine norm_ (a':=?_) ?_ ?_
       rotate_left
       ·simp only [putAll,Act.put,u0,u1,u2]
        rfl
       refine one_ (i:=16) (N:=none) #[y',y',y',y',y',y',y',y',y',y',y',y',y',y',y',y',y'] rfl rfl (one_of HT_.out (by kernel_rfl)) (by decide) (fun K hK=>?_)
       have hs35 : w31.cell? ⟨gb148,0,none⟩ = some (.slice none 0 0):=(zD BK148.out 0).trans rfl;have hfs35:=zE BK148.out 0;have hns35_0:=NB131_148.out;have hms35_0:=NB148_131.out;have hs36 : w31.cell? ⟨gb148,1,none⟩ = some (.slice none 0 0):=(zD BK148.out 1).trans rfl;have hfs36:=zE BK148.out 1;have hns36_0:=NB131_148.out;have hms36_0:=NB148_131.out;have hs37 : w31.cell? ⟨gb148,2,none⟩ = some (.slice none 0 0):=(zD BK148.out 2).trans rfl;have hfs37:=zE BK148.out 2;have hns37_0:=NB131_148.out;have hms37_0:=NB148_131.out;have hs38 : w31.cell? ⟨gb148,3,none⟩ = some (.slice none 0 0):=(zD BK148.out 3).trans rfl;have hfs38:=zE BK148.out 3;have hns38_0:=NB131_148.out;have hms38_0:=NB148_131.out;refine skip_ (w1:=?_) (by rfl) rfl ?_ ?_
       rotate_left
       ·go_simp
        rfl
       refine hK.out _ _ ⟨((cell_far (p:=⟨gb148,_,none⟩) (by first|exact Kd.own_blk (Kd.R_ne HO_4.out BK148.out (by decide))|(rw [zO];exact Kd.own_blk (Kd.R_ne HO_4.out BK148.out (by decide)))|(show (Addr.add _ _).block ≠ _;rw [zO];exact Kd.own_blk (Kd.R_ne HO_4.out BK148.out (by decide)))|(dsimp only;exact Kd.own_blk (Kd.R_ne HO_4.out BK148.out (by decide)))) _).trans (((cell_far (p:=⟨gb148,_,none⟩) (by first|exact Kd.own_blk (Kd.R_ne HO_4.out BK148.out (by decide))|(rw [zO];exact Kd.own_blk (Kd.R_ne HO_4.out BK148.out (by decide)))|(show (Addr.add _ _).block ≠ _;rw [zO];exact Kd.own_blk (Kd.R_ne HO_4.out BK148.out (by decide)))|(dsimp only;exact Kd.own_blk (Kd.R_ne HO_4.out BK148.out (by decide)))) _).trans (((cell_far (p:=⟨gb148,_,none⟩) (by first|exact Kd.own_blk (Kd.R_ne HO_4.out BK148.out (by decide))|(rw [zO];exact Kd.own_blk (Kd.R_ne HO_4.out BK148.out (by decide)))|(show (Addr.add _ _).block ≠ _;rw [zO];exact Kd.own_blk (Kd.R_ne HO_4.out BK148.out (by decide)))|(dsimp only;exact Kd.own_blk (Kd.R_ne HO_4.out BK148.out (by decide)))) _).trans (((cell_far (p:=⟨gb148,_,none⟩) (by first|exact Kd.own_blk (Kd.R_ne HO_4.out BK148.out (by decide))|(rw [zO];exact Kd.own_blk (Kd.R_ne HO_4.out BK148.out (by decide)))|(show (Addr.add _ _).block ≠ _;rw [zO];exact Kd.own_blk (Kd.R_ne HO_4.out BK148.out (by decide)))|(dsimp only;exact Kd.own_blk (Kd.R_ne HO_4.out BK148.out (by decide)))) _).trans (hHeld.1)))))))),((cell_far (p:=⟨gb148,_,none⟩) (by first|exact Kd.own_blk (Kd.R_ne HO_4.out BK148.out (by decide))|(rw [zO];exact Kd.own_blk (Kd.R_ne HO_4.out BK148.out (by decide)))|(show (Addr.add _ _).block ≠ _;rw [zO];exact Kd.own_blk (Kd.R_ne HO_4.out BK148.out (by decide)))|(dsimp only;exact Kd.own_blk (Kd.R_ne HO_4.out BK148.out (by decide)))) _).trans (((cell_far (p:=⟨gb148,_,none⟩) (by first|exact Kd.own_blk (Kd.R_ne HO_4.out BK148.out (by decide))|(rw [zO];exact Kd.own_blk (Kd.R_ne HO_4.out BK148.out (by decide)))|(show (Addr.add _ _).block ≠ _;rw [zO];exact Kd.own_blk (Kd.R_ne HO_4.out BK148.out (by decide)))|(dsimp only;exact Kd.own_blk (Kd.R_ne HO_4.out BK148.out (by decide)))) _).trans (((cell_far (p:=⟨gb148,_,none⟩) (by first|exact Kd.own_blk (Kd.R_ne HO_4.out BK148.out (by decide))|(rw [zO];exact Kd.own_blk (Kd.R_ne HO_4.out BK148.out (by decide)))|(show (Addr.add _ _).block ≠ _;rw [zO];exact Kd.own_blk (Kd.R_ne HO_4.out BK148.out (by decide)))|(dsimp only;exact Kd.own_blk (Kd.R_ne HO_4.out BK148.out (by decide)))) _).trans (((cell_far (p:=⟨gb148,_,none⟩) (by first|exact Kd.own_blk (Kd.R_ne HO_4.out BK148.out (by decide))|(rw [zO];exact Kd.own_blk (Kd.R_ne HO_4.out BK148.out (by decide)))|(show (Addr.add _ _).block ≠ _;rw [zO];exact Kd.own_blk (Kd.R_ne HO_4.out BK148.out (by decide)))|(dsimp only;exact Kd.own_blk (Kd.R_ne HO_4.out BK148.out (by decide)))) _).trans (hHeld.2))))))))⟩ (fun hHeld=>?_)
       clear hK K;refine done_ (done_of HT_.out (by kernel_rfl)) ?_
       go_upto_if 38 with (fail)
       go_cut [] (fun wc=>∃ (kq : Nat) (x149000_16 : List Int) (x149001_16 : List Int) (u149000 : Value) (u149001 : Value),Aside0 (spec_l4signal.j1 kq a0 t132 x149000_16 x149001_16 y145 = some (r1,r2,r3,r4,r5))∧Aside0 (kq ≤ kj2)∧Aside0 (Kd.R Kd.string 9 wc w.heap.size (fun k_=>(w.heap.size ≤ k_)) (.slice (some ad139) t132.length co19) t132)∧Aside0 (Kd.R (Kd.int .i64) 3 wc w.heap.size (fun k_=>(w.heap.size ≤ k_)∧some k_ ≠ (u149001 : Value).ownBlock) u149000 x149000_16)∧Aside0 (Kd.R (Kd.int .i64) 3 wc w.heap.size (fun k_=>(w.heap.size ≤ k_)∧some k_ ≠ (u149000 : Value).ownBlock) u149001 x149001_16)∧Aside0 (Kd.R Kd.bool 4 wc w.heap.size (fun k_=>(w.heap.size ≤ k_)) (.slice Ao32 y145.length co32) y145)∧Aside0 (wc.heap[gb131]? = some (.cells #[(.slice none 0 0),(.slice none 0 0),(.slice none 0 0),(.slice none 0 0)] 30 (0,0)))∧Aside0 (wc.heap[gb148]? = some (.cells #[u149000,u149001,(.slice Ao32 y145.length co32),(.slice none 0 0)] 30 (0,0)))∧Aside0 (Below w.heap.size w wc))
       case first =>
        have H:=HC17.out;clear HC17;by_cases c39 : (t132.length : Int) = 7
        ·rw [if_pos c39] at H;have c39b0 : ((t132.length : Int) == 7) = true:=beq_iff_eq.mpr c39;have c39b1 : ((t132.length : Int) != 7) = false:=bne_eq_false_iff_eq.mpr c39;clear c39;(first|rw [c39b0]|(simp only [i64_w,i32_w];rw [c39b0])|skip)
         by_cases c40 : 4 < (t132.length : Int)
         ·rw [if_pos c40] at H;have c40b0 : decide (4 < (t132.length : Int)) = true:=decide_eq_true c40;have c40b1 : decide (4 < t132.length) = true:=decide_eq_true (by omega)
          clear c40;replace H:=Option.bind_eq_some_iff.mp H;obtain ⟨t150,A410,H⟩:=H;replace H : (if 0 < (y136.length : Int) then (if t150 < 0 then (some (([] : List Int),([] : List Int),([] : List Bool),([] : List (List Bool)),false)) else (spec_l4signal.j1 kj2 a0 t132 (y136.set (0 : Int).toNat t150) y141 y145)) else (none)) = some (r1,r2,r3,r4,r5):=H;have A41:=zm A410;clear A410;by_cases c42 : 0 < (y136.length : Int)
          ·rw [if_pos c42] at H;have c42b0 : decide (0 < (y136.length : Int)) = true:=decide_eq_true c42;have c42b1 : decide (0 < y136.length) = true:=decide_eq_true (by omega)
           clear c42;obtain ⟨y151,hy151⟩ : ∃ y_ : List Int,y_ = (y136.set (0 : Int).toNat t150):=⟨_,rfl⟩;replace H : (if t150 < 0 then (some (([] : List Int),([] : List Int),([] : List Bool),([] : List (List Bool)),false)) else (spec_l4signal.j1 kj2 a0 t132 y151 y141 y145)) = some (r1,r2,r3,r4,r5):=by first|(rw [hy151];with_reducible exact H)|(have H2_:=(Option.bind_some _ _).symm.trans H;rw [hy151];with_reducible exact H2_)|(have H2_:=(Option.bind_some _ _).symm.trans H;with_reducible exact H2_)|with_reducible exact H|(rw [hy151];exact H)|exact H
           have Ny151:=zm hy151;clear hy151;by_cases c45 : t150 < 0
           ·rw [if_pos c45] at H;have c45b0 : decide (t150 < 0) = true:=decide_eq_true c45;clear c45;simp only [Option.some.injEq,Prod.mk.injEq] at H
            obtain ⟨rfl,rfl,rfl,rfl,rfl⟩:=H;try go_wp2
            have n0_ : Aside0 (Kd.R Kd.string 9 ((((w31.setCell ⟨gb148,0,none⟩ (.slice Ao34 y136.length co34)).setCell ⟨gb148,1,none⟩ (.slice Ao33 y141.length co33)).setCell ⟨gb148,2,none⟩ (.slice Ao32 y145.length co32)).setCell ⟨gb148,3,none⟩ (.slice none 0 0)) w.heap.size (fun k_=>(w.heap.size ≤ k_)) (.slice (some ad139) t132.length co19) t132):=⟨by exact zS (zX (p:=⟨gb148,3,none⟩) (zX (p:=⟨gb148,2,none⟩) (zX (p:=⟨gb148,1,none⟩) (zX (p:=⟨gb148,0,none⟩) (zBb HO_4.out BK148.out (by decide)) (fun _ hk=>hk.2) (.slice Ao34 y136.length co34)) (fun _ hk=>hk.2) (.slice Ao33 y141.length co33)) (fun _ hk=>hk.2) (.slice Ao32 y145.length co32)) (fun _ hk=>hk.2) (.slice none 0 0)) (fun _ hk=>hk.1)⟩
            have n1_ : Aside0 (Kd.R (Kd.int .i64) 3 ((((w31.setCell ⟨gb148,0,none⟩ (.slice Ao34 y136.length co34)).setCell ⟨gb148,1,none⟩ (.slice Ao33 y141.length co33)).setCell ⟨gb148,2,none⟩ (.slice Ao32 y145.length co32)).setCell ⟨gb148,3,none⟩ (.slice none 0 0)) w.heap.size (fun k_=>(w.heap.size ≤ k_)∧some k_ ≠ (.slice Ao33 y141.length co33 : Value).ownBlock) (.slice Ao34 y136.length co34) y136):=⟨by exact zS (zX (p:=⟨gb148,3,none⟩) (zX (p:=⟨gb148,2,none⟩) (zX (p:=⟨gb148,1,none⟩) (zX (p:=⟨gb148,0,none⟩) (zBb HO138.out BK148.out (by decide)) (fun _ hk=>hk.2) (.slice Ao34 y136.length co34)) (fun _ hk=>hk.2) (.slice Ao33 y141.length co33)) (fun _ hk=>hk.2) (.slice Ao32 y145.length co32)) (fun _ hk=>hk.2) (.slice none 0 0)) (fun _ hk=>⟨hk.1.1,hk.1.2⟩)⟩
            have n2_ : Aside0 (Kd.R (Kd.int .i64) 3 ((((w31.setCell ⟨gb148,0,none⟩ (.slice Ao34 y136.length co34)).setCell ⟨gb148,1,none⟩ (.slice Ao33 y141.length co33)).setCell ⟨gb148,2,none⟩ (.slice Ao32 y145.length co32)).setCell ⟨gb148,3,none⟩ (.slice none 0 0)) w.heap.size (fun k_=>(w.heap.size ≤ k_)∧some k_ ≠ (.slice Ao34 y136.length co34 : Value).ownBlock) (.slice Ao33 y141.length co33) y141):=⟨by exact zS (zX (p:=⟨gb148,3,none⟩) (zX (p:=⟨gb148,2,none⟩) (zX (p:=⟨gb148,1,none⟩) (zX (p:=⟨gb148,0,none⟩) (zBb HO143.out BK148.out (by decide)) (fun _ hk=>hk.2) (.slice Ao34 y136.length co34)) (fun _ hk=>hk.2) (.slice Ao33 y141.length co33)) (fun _ hk=>hk.2) (.slice Ao32 y145.length co32)) (fun _ hk=>hk.2) (.slice none 0 0)) (fun _ hk=>⟨hk.1.1,hk.1.2⟩)⟩
            have n3_ : Aside0 (Kd.R Kd.bool 4 ((((w31.setCell ⟨gb148,0,none⟩ (.slice Ao34 y136.length co34)).setCell ⟨gb148,1,none⟩ (.slice Ao33 y141.length co33)).setCell ⟨gb148,2,none⟩ (.slice Ao32 y145.length co32)).setCell ⟨gb148,3,none⟩ (.slice none 0 0)) w.heap.size (fun k_=>(w.heap.size ≤ k_)) (.slice Ao32 y145.length co32) y145):=⟨by exact zS (zX (p:=⟨gb148,3,none⟩) (zX (p:=⟨gb148,2,none⟩) (zX (p:=⟨gb148,1,none⟩) (zX (p:=⟨gb148,0,none⟩) (zBb HO147.out BK148.out (by decide)) (fun _ hk=>hk.2) (.slice Ao34 y136.length co34)) (fun _ hk=>hk.2) (.slice Ao33 y141.length co33)) (fun _ hk=>hk.2) (.slice Ao32 y145.length co32)) (fun _ hk=>hk.2) (.slice none 0 0)) (fun _ hk=>hk.1)⟩
            have n4_ : Aside0 (((((w31.setCell ⟨gb148,0,none⟩ (.slice Ao34 y136.length co34)).setCell ⟨gb148,1,none⟩ (.slice Ao33 y141.length co33)).setCell ⟨gb148,2,none⟩ (.slice Ao32 y145.length co32)).setCell ⟨gb148,3,none⟩ (.slice none 0 0)).heap[gb131]? = some o4):=⟨by (with_reducible repeat (first|refine zH ?_ _|refine zI ?_|refine zG ?_ _));refine blk_far ?_ NB131_148.out _;(with_reducible repeat (first|refine zH ?_ _|refine zI ?_|refine zG ?_ _));refine blk_far ?_ NB131_148.out _;(with_reducible repeat (first|refine zH ?_ _|refine zI ?_|refine zG ?_ _));refine blk_far ?_ NB131_148.out _;(with_reducible repeat (first|refine zH ?_ _|refine zI ?_|refine zG ?_ _));refine blk_far ?_ NB131_148.out _;exact BK131.out⟩
            have n5_ : Aside0 (((((w31.setCell ⟨gb148,0,none⟩ (.slice Ao34 y136.length co34)).setCell ⟨gb148,1,none⟩ (.slice Ao33 y141.length co33)).setCell ⟨gb148,2,none⟩ (.slice Ao32 y145.length co32)).setCell ⟨gb148,3,none⟩ (.slice none 0 0)).heap[gb148]? = some (.cells #[.slice Ao34 y136.length co34,.slice Ao33 y141.length co33,.slice Ao32 y145.length co32,.slice none 0 0] 30 (0,0))):=⟨by (with_reducible repeat (first|refine zH ?_ _|refine zI ?_|refine zG ?_ _));refine blk_put (cs:=#[.slice Ao34 y136.length co34,.slice Ao33 y141.length co33,.slice Ao32 y145.length co32,.slice none 0 0]) ?_ 3 _ rfl;(with_reducible repeat (first|refine zH ?_ _|refine zI ?_|refine zG ?_ _));refine blk_put (cs:=#[.slice Ao34 y136.length co34,.slice Ao33 y141.length co33,.slice none 0 0,.slice none 0 0]) ?_ 2 _ rfl;(with_reducible repeat (first|refine zH ?_ _|refine zI ?_|refine zG ?_ _));refine blk_put (cs:=#[.slice Ao34 y136.length co34,.slice none 0 0,.slice none 0 0,.slice none 0 0]) ?_ 1 _ rfl;(with_reducible repeat (first|refine zH ?_ _|refine zI ?_|refine zG ?_ _));refine blk_put (cs:=#[.slice none 0 0,.slice none 0 0,.slice none 0 0,.slice none 0 0]) ?_ 0 _ rfl;exact BK148.out⟩
            have n6_ : Aside0 (Below w.heap.size w ((((w31.setCell ⟨gb148,0,none⟩ (.slice Ao34 y136.length co34)).setCell ⟨gb148,1,none⟩ (.slice Ao33 y141.length co33)).setCell ⟨gb148,2,none⟩ (.slice Ao32 y145.length co32)).setCell ⟨gb148,3,none⟩ (.slice none 0 0))):=⟨by repeat (first|(with_reducible first|exact HB.out|apply zA|apply zB|apply zC|refine zF ?_ GE131.out|refine zF ?_ GE148.out)|exact HB.out)⟩
            (try clear HO_4);(try clear HO138);(try clear HO143);(try clear HO147);(try clear BK131);(try clear BK148);(try clear HB);generalize ((((w31.setCell ⟨gb148,0,none⟩ (.slice Ao34 y136.length co34)).setCell ⟨gb148,1,none⟩ (.slice Ao33 y141.length co33)).setCell ⟨gb148,2,none⟩ (.slice Ao32 y145.length co32)).setCell ⟨gb148,3,none⟩ (.slice none 0 0)) = w46 at n0_ n1_ n2_ n3_ n4_ n5_ n6_ ⊢
            have HO_4:=n0_;have HO138:=n1_;have HO143:=n2_;have HO147:=n3_;have BK131:=n4_;have BK148:=n5_;have HB:=n6_;clear n0_ n1_ n2_ n3_ n4_ n5_ n6_;replace HO_4:=zm (zR HO_4.out);replace HO138:=zm (zR HO138.out);replace HO143:=zm (zR HO143.out);replace HO147:=zm (zR HO147.out);replace BK131:=zm (zI BK131.out);replace BK148:=zm (zI BK148.out);replace HB:=zm (zC HB.out);have p149 : 0 ≤ (4 : Int):=(by omega)
            have q149 : 4 < (t132.length : Int):=of_decide_eq_true (by first|(with_reducible assumption)|assumption)
            obtain ⟨ad149,e149,hx149_0⟩:=Kd.at_string (zW HO_4.out).2.2 4 p149 q149;obtain rfl : ad139 = ad149:=(by injection e149)
            (try simp only [show (4 : Int).toNat = 4 from rfl,Nat.reduceMul,Nat.reduceEqDiff,Go.Addr.add,↓reduceIte] at hx149_0)
            have qi149 : (4 < t132.length) = True:=eq_true (by omega)
            (try rw [show ((4 : Int)).toNat = 4 from rfl] at hx149_0)
            replace p149:=eq_true p149;replace q149:=eq_true q149;refine start_ (n:=8) (S:=fun w'=>w'.cell? ⟨gb148,0,none⟩ = some (.slice Ao34 y136.length co34)∧w'.cell? ⟨gb148,1,none⟩ = some (.slice Ao33 y141.length co33)∧w'.cell? ⟨gb148,2,none⟩ = some (.slice Ao32 y145.length co32)∧w'.cell? ⟨gb148,3,none⟩ = some (.slice none 0 0)∧w'.cell? ⟨ad139.block,ad139.off + 4,none⟩ = some (.string (rdOf ByteArray.empty t132 4))) (ds:=[7]) #[n',n',n',n',n',n',n',n'] (by kernel_rfl) rfl rfl ⟨(zD BK148.out 0).trans rfl,(zD BK148.out 1).trans rfl,(zD BK148.out 2).trans rfl,(zD BK148.out 3).trans rfl,hx149_0⟩ (fun hHeld=>?_);refine with_tabW spec_l4signal.tab6 spec_l4signal.bits6 (fun HT_ HW_=>?_)
            generalize w46.drew = w47 at HO_4 HO138 HO143 HO147 BK131 BK148 HB hx149_0 hHeld ⊢
            refine pure_ (i:=0) (N:=some 39) (v:=?_) (a':=?_) #[y',n',n',n',n',n',n',n'] rfl rfl (any_of HT_.out (by kernel_rfl)) (fun _ _ _ h=>h) (Or.inl ⟨by rfl,?_⟩) ?_ ?_
            rotate_left
            ·intro w'
             go_simp
             with_reducible rfl
            rotate_left
            ·simp only [Act.put,u0,u1,u2,i64_w,i32_w]
             rfl
            refine pure_ (i:=2) (N:=some 41) (v:=?_) (a':=?_) #[y',n',y',n',n',n',n',n'] rfl rfl (any_of HT_.out (by kernel_rfl)) (fun _ _ _ h=>h) (Or.inl ⟨by rfl,?_⟩) ?_ ?_
            rotate_left
            ·intro w'
             go_simp
             with_reducible rfl
            rotate_left
            ·simp only [Act.put,u0,u1,u2,i64_w,i32_w]
             rfl
            refine pure_ (i:=3) (N:=some 42) (v:=?_) (a':=?_) #[y',n',y',y',n',n',n',n'] rfl rfl (any_of HT_.out (by kernel_rfl)) (fun _ _ _ h=>h) (Or.inl ⟨by rfl,?_⟩) ?_ ?_
            rotate_left
            ·intro w'
             go_simp
             with_reducible rfl
            rotate_left
            ·simp only [Act.put,u0,u1,u2,i64_w,i32_w]
             rfl
            refine take_ (i:=1) (N:=some 40) (v:=?_) (a':=?_) #[y',y',y',y',n',n',n',n'] rfl rfl (take_ofW HT_.out HW_.out (by kernel_rfl)) (fun _ _ _ h=>h) (Or.inl ⟨by rfl,?_⟩) hHeld ?_ ?_
            rotate_left
            ·rintro w' ⟨s0,s1,s2,s3,s4⟩
             go_simp
             with_reducible rfl
            rotate_left
            ·simp only [Act.put,u0,u1,u2,i64_w,i32_w]
             rfl
            refine take_ (i:=4) (N:=some 43) (v:=?_) (a':=?_) #[y',y',y',y',y',n',n',n'] rfl rfl (take_ofW HT_.out HW_.out (by kernel_rfl)) (fun _ _ _ h=>h) (Or.inl ⟨by rfl,?_⟩) hHeld ?_ ?_
            rotate_left
            ·rintro w' ⟨s0,s1,s2,s3,s4⟩
             go_simp
             with_reducible rfl
            rotate_left
            ·simp only [Act.put,u0,u1,u2,i64_w,i32_w]
             rfl
            refine one_ (i:=5) (N:=some 44) #[y',y',y',y',y',y',n',n'] rfl rfl (one_of HT_.out (by kernel_rfl)) (by decide) (fun K hK=>?_)
            refine goes_ Try.func51 (by kernel_rfl) rfl #[.string (rdOf ByteArray.empty t132 4)] (by rfl) rfl rfl (by (try simp only [List.map_toArray,List.map_cons,List.map_nil]);first|done|rfl|(simp only [List.length_drop,List.length_take];rfl)) ?_
            with_reducible refine (spec_l4num.calls kj2 (rdOf ByteArray.empty t132 4) t150 _ A41.out).mono ?_
            rintro e w48 ⟨rfl,hb⟩
            have HS4_:=z3 hb hHeld.2.2.2.2;refine ⟨_,rfl,?_⟩
            replace HO_4:=zm (zHb (by exact HO_4.out) hb)
            replace HO138:=zm (zHb (by exact HO138.out) hb)
            replace HO143:=zm (zHb (by exact HO143.out) hb)
            replace HO147:=zm (zHb (by exact HO147.out) hb)
            replace BK131:=zm (zL (by exact BK131.out) hb)
            replace BK148:=zm (zL (g:=gb148) (o:=.cells #[.slice Ao34 y136.length co34,.slice Ao33 y141.length co33,.slice Ao32 y145.length co32,.slice none 0 0] 30 (0,0)) (by exact BK148.out) hb)
            replace HB:=zm (zK (by with_reducible repeat first|exact HB.out|apply zA|apply zB|apply zC) hb)
            (try clear hb);(try clear hb2);(try clear hk);(try clear hi);have p43 : 0 ≤ (0 : Int):=(by omega)
            have q43 : (0 : Int) < ((y136.length : Int) : Int):=of_decide_eq_true (by first|(with_reducible assumption)|assumption)
            have qi43 : (0 < y136.length) = True:=eq_true (by omega)
            obtain ⟨go43,co43,eo43,gb43,gl43,cl43,HG43⟩:=Kd.R_form HO138.out (by omega)
            (first|cases eo43|(injection eo43 with ea_ en_ ec_;(first|subst ea_|(injection ea_ with ea_;subst ea_));subst ec_;clear en_))
            have GB43:=zm gb43;have GG43:=zm HG43;clear gb43 gl43 HG43;obtain ⟨hx43_0,hf43_0⟩:=Kd.R_celln 0 HO138.out (0 : Int) p43 q43;(try rw [show ((0 : Int)).toNat = 0 from rfl] at hx43_0)
            (try simp only [Nat.reduceMul,Nat.zero_mul,Nat.zero_add,Nat.reduceAdd] at hx43_0);(try rw [show ((0 : Int)).toNat = 0 from rfl] at hf43_0)
            (try simp only [Nat.reduceMul,Nat.zero_mul,Nat.zero_add,Nat.reduceAdd] at hf43_0);replace p43:=eq_true p43;replace q43:=eq_true q43;have HP49:=Kd.R_putn HO138.out (0 : Int) t150;rw [← Ny151.out] at HP49;have HQ49:=zm HP49;clear HP49;refine hK.out _ _ ⟨(zD BK148.out 0).trans rfl,(zD BK148.out 1).trans rfl,(zD BK148.out 2).trans rfl,(zD BK148.out 3).trans rfl,HS4_⟩ (fun hHeld=>?_)
            clear hK K;refine norm_ (a':=?_) ?_ ?_
            rotate_left
            ·show Act.put _ (some 44) _ = _
             simp only [Act.put,u0,u1,u2,i64_w,i32_w]
             rfl
            refine pure_ (i:=6) (N:=some 45) (v:=?_) (a':=?_) #[y',y',y',y',y',y',y',n'] rfl rfl (any_of HT_.out (by kernel_rfl)) (fun _ _ _ h=>h) (Or.inl ⟨by rfl,?_⟩) ?_ ?_
            rotate_left
            ·intro w'
             go_simp
             with_reducible rfl
            rotate_left
            ·simp only [Act.put,u0,u1,u2,i64_w,i32_w]
             rfl
            refine last_ (i:=7) (N:=none) #[y',y',y',y',y',y',y',y'] rfl rfl (one_of HT_.out (by kernel_rfl)) (by decide) (fun K hK=>?_)
            refine skip_ (w1:=?_) (by rfl) rfl ?_ ?_
            rotate_left
            ·go_simp
             rfl
            refine hK.out _ _ ?_
            clear hK K;refine done_ (done_of HT_.out (by kernel_rfl)) ?_
            have n0_ : Aside0 (Kd.R Kd.string 9 (w48.setCell ⟨go43,0,none⟩ (.int .i64 t150)) w.heap.size (fun k_=>(w.heap.size ≤ k_)) (.slice (some ad139) t132.length co19) t132):=⟨by exact zS (zX (p:=⟨go43,0,none⟩) (zBb HO_4.out GG43.out (by decide)) (fun _ hk=>hk.2) (.int .i64 t150)) (fun _ hk=>hk.1)⟩
            have n1_ : Aside0 (Kd.R (Kd.int .i64) 3 (w48.setCell ⟨go43,0,none⟩ (.int .i64 t150)) w.heap.size (fun k_=>(w.heap.size ≤ k_)∧some k_ ≠ (.slice Ao33 y141.length co33 : Value).ownBlock) (.slice (some ⟨go43,0,none⟩) y136.length co34) y151):=⟨by exact HQ49.out⟩
            have n2_ : Aside0 (Kd.R (Kd.int .i64) 3 (w48.setCell ⟨go43,0,none⟩ (.int .i64 t150)) w.heap.size (fun k_=>(w.heap.size ≤ k_)∧some k_ ≠ (.slice (some ⟨go43,0,none⟩) y136.length co34 : Value).ownBlock) (.slice Ao33 y141.length co33) y141):=⟨by exact zS (zX (p:=⟨go43,0,none⟩) (zS HO143.out (fun k_ hk=>(⟨hk,fun e_=>hk.2 (by rw [e_];rfl)⟩ : _∧k_ ≠ go43))) (fun _ hk=>hk.2) (.int .i64 t150)) (fun _ hk=>⟨hk.1.1,hk.1.2⟩)⟩
            have n3_ : Aside0 (Kd.R Kd.bool 4 (w48.setCell ⟨go43,0,none⟩ (.int .i64 t150)) w.heap.size (fun k_=>(w.heap.size ≤ k_)) (.slice Ao32 y145.length co32) y145):=⟨by exact zS (zX (p:=⟨go43,0,none⟩) (zBb HO147.out GG43.out (by decide)) (fun _ hk=>hk.2) (.int .i64 t150)) (fun _ hk=>hk.1)⟩
            have n4_ : Aside0 ((w48.setCell ⟨go43,0,none⟩ (.int .i64 t150)).heap[gb131]? = some o4):=⟨by (with_reducible repeat (first|refine zH ?_ _|refine zI ?_|refine zG ?_ _));refine blk_far ?_ (by have h_:=Kd.R_ne HO138.out BK131.out (by decide);intro e_;exact h_ (by rw [e_];rfl)) _;exact BK131.out⟩
            have n5_ : Aside0 ((w48.setCell ⟨go43,0,none⟩ (.int .i64 t150)).heap[gb148]? = some (.cells #[.slice (some ⟨go43,0,none⟩) y136.length co34,.slice Ao33 y141.length co33,.slice Ao32 y145.length co32,.slice none 0 0] 30 (0,0))):=⟨by (with_reducible repeat (first|refine zH ?_ _|refine zI ?_|refine zG ?_ _));refine blk_far ?_ (by have h_:=Kd.R_ne HO138.out BK148.out (by decide);intro e_;exact h_ (by rw [e_];rfl)) _;exact BK148.out⟩
            have n6_ : Aside0 (Below w.heap.size w (w48.setCell ⟨go43,0,none⟩ (.int .i64 t150))):=⟨by repeat (first|(with_reducible first|exact HB.out|apply zA|apply zB|apply zC|refine zF ?_ GB43.out|refine zF ?_ GE131.out|refine zF ?_ GE148.out)|exact HB.out)⟩
            (try clear HO_4);(try clear HO138);(try clear HO143);(try clear HO147);(try clear BK131);(try clear BK148);(try clear HB);have n9_:=World.cell?_setCell_same w48 ⟨go43,0,none⟩ (.int .i64 t150) hx43_0;generalize (w48.setCell ⟨go43,0,none⟩ (.int .i64 t150)) = w50 at n0_ n1_ n2_ n3_ n4_ n5_ n6_ n9_ ⊢;have hcsw50:=n9_;clear n9_;have HO_4:=n0_;have HO138:=n1_;have HO143:=n2_;have HO147:=n3_;have BK131:=n4_;have BK148:=n5_;have HB:=n6_;clear n0_ n1_ n2_ n3_ n4_ n5_ n6_;have hnb51:=NB148_131.out;have hnc51:=NB131_148.out;have hcz52_0 : w50.cell? ⟨gb148,0,none⟩ = some (.slice (some ⟨go43,0,none⟩) y136.length co34):=(zD BK148.out 0).trans rfl;have hcz52_1 : w50.cell? ⟨gb148,1,none⟩ = some (.slice Ao33 y141.length co33):=(zD BK148.out 1).trans rfl;have hcz52_2 : w50.cell? ⟨gb148,2,none⟩ = some (.slice Ao32 y145.length co32):=(zD BK148.out 2).trans rfl;have hcz52_3 : w50.cell? ⟨gb148,3,none⟩ = some (.slice none 0 0):=(zD BK148.out 3).trans rfl;have hfz52_0:=zE BK148.out 0;have hfz52_1:=zE BK148.out 1;have hfz52_2:=zE BK148.out 2;have hfz52_3:=zE BK148.out 3;have p44 : 0 ≤ (0 : Int):=(by omega)
            have q44 : (0 : Int) < ((y136.length : Int) : Int):=of_decide_eq_true (by first|(with_reducible assumption)|assumption)
            replace p44:=eq_true p44;replace q44:=eq_true q44;have hcz53_0 : w50.cell? ⟨gb131,0,none⟩ = some (.slice none 0 0):=(zD BK131.out 0).trans rfl;have hcz53_1 : w50.cell? ⟨gb131,1,none⟩ = some (.slice none 0 0):=(zD BK131.out 1).trans rfl;have hcz53_2 : w50.cell? ⟨gb131,2,none⟩ = some (.slice none 0 0):=(zD BK131.out 2).trans rfl;have hcz53_3 : w50.cell? ⟨gb131,3,none⟩ = some (.slice none 0 0):=(zD BK131.out 3).trans rfl;have hfz53_0:=zE BK131.out 0;have hfz53_1:=zE BK131.out 1;have hfz53_2:=zE BK131.out 2;have hfz53_3:=zE BK131.out 3;try go_wp2
            refine bodyPost_ret (results_ct rfl _ _ gb131 30 #[.slice none 0 0,.slice none 0 0,.slice none 0 0,.slice none 0 0] (0,0) _ rfl (by (with_reducible repeat (first|refine zH ?_ _|refine zI ?_|refine zG ?_ _));refine blk_put (cs:=#[.slice none 0 0,.slice none 0 0,.slice none 0 0,.slice none 0 0]) ?_ 3 _ rfl;(with_reducible repeat (first|refine zH ?_ _|refine zI ?_|refine zG ?_ _));refine blk_put (cs:=#[.slice none 0 0,.slice none 0 0,.slice none 0 0,.slice none 0 0]) ?_ 2 _ rfl;(with_reducible repeat (first|refine zH ?_ _|refine zI ?_|refine zG ?_ _));refine blk_put (cs:=#[.slice none 0 0,.slice none 0 0,.slice none 0 0,.slice none 0 0]) ?_ 1 _ rfl;(with_reducible repeat (first|refine zH ?_ _|refine zI ?_|refine zG ?_ _));refine blk_put (cs:=#[.slice none 0 0,.slice none 0 0,.slice none 0 0,.slice none 0 0]) ?_ 0 _ rfl;exact BK131.out) Try.underlying30 rfl (by kernel_rfl)) rfl ?_
            exact ⟨_,_,_,_,by first|rfl|(simp [errW_none,errW_some] <;> rfl)|(simp only [← hji12];first|rfl|(simp [errW_none,errW_some] <;> rfl))|(simp [*,errW_none,errW_some] <;> rfl),by first|exact Kd.R_nil _ _ _ _ _|exact Kd.N_nil _ _ _ _ _|exact Kd.V_nil _ _ _ _ _|exact Kd.Q_nil _ _ _ _ _|exact Kd.S_nil _ _ _ _ _,by first|exact Kd.R_nil _ _ _ _ _|exact Kd.N_nil _ _ _ _ _|exact Kd.V_nil _ _ _ _ _|exact Kd.Q_nil _ _ _ _ _|exact Kd.S_nil _ _ _ _ _,by first|exact Kd.R_nil _ _ _ _ _|exact Kd.N_nil _ _ _ _ _|exact Kd.V_nil _ _ _ _ _|exact Kd.Q_nil _ _ _ _ _|exact Kd.S_nil _ _ _ _ _,by first|exact Kd.S_nil _ _ _ _ _|exact Kd.N_nil _ _ _ _ _|exact Kd.V_nil _ _ _ _ _|exact Kd.Q_nil _ _ _ _ _|exact Kd.R_nil _ _ _ _ _,by repeat (first|(with_reducible first|exact HB.out|apply zA|apply zB|apply zC|refine zF ?_ GE131.out|refine zF ?_ GE148.out)|exact HB.out)⟩
           ·rw [if_neg c45] at H;have c45b0 : decide (t150 < 0) = false:=decide_eq_false c45;clear c45;have H':=zm H;clear H;try go_wp2
            have n0_ : Aside0 (Kd.R Kd.string 9 ((((w31.setCell ⟨gb148,0,none⟩ (.slice Ao34 y136.length co34)).setCell ⟨gb148,1,none⟩ (.slice Ao33 y141.length co33)).setCell ⟨gb148,2,none⟩ (.slice Ao32 y145.length co32)).setCell ⟨gb148,3,none⟩ (.slice none 0 0)) w.heap.size (fun k_=>(w.heap.size ≤ k_)) (.slice (some ad139) t132.length co19) t132):=⟨by exact zS (zX (p:=⟨gb148,3,none⟩) (zX (p:=⟨gb148,2,none⟩) (zX (p:=⟨gb148,1,none⟩) (zX (p:=⟨gb148,0,none⟩) (zBb HO_4.out BK148.out (by decide)) (fun _ hk=>hk.2) (.slice Ao34 y136.length co34)) (fun _ hk=>hk.2) (.slice Ao33 y141.length co33)) (fun _ hk=>hk.2) (.slice Ao32 y145.length co32)) (fun _ hk=>hk.2) (.slice none 0 0)) (fun _ hk=>hk.1)⟩
            have n1_ : Aside0 (Kd.R (Kd.int .i64) 3 ((((w31.setCell ⟨gb148,0,none⟩ (.slice Ao34 y136.length co34)).setCell ⟨gb148,1,none⟩ (.slice Ao33 y141.length co33)).setCell ⟨gb148,2,none⟩ (.slice Ao32 y145.length co32)).setCell ⟨gb148,3,none⟩ (.slice none 0 0)) w.heap.size (fun k_=>(w.heap.size ≤ k_)∧some k_ ≠ (.slice Ao33 y141.length co33 : Value).ownBlock) (.slice Ao34 y136.length co34) y136):=⟨by exact zS (zX (p:=⟨gb148,3,none⟩) (zX (p:=⟨gb148,2,none⟩) (zX (p:=⟨gb148,1,none⟩) (zX (p:=⟨gb148,0,none⟩) (zBb HO138.out BK148.out (by decide)) (fun _ hk=>hk.2) (.slice Ao34 y136.length co34)) (fun _ hk=>hk.2) (.slice Ao33 y141.length co33)) (fun _ hk=>hk.2) (.slice Ao32 y145.length co32)) (fun _ hk=>hk.2) (.slice none 0 0)) (fun _ hk=>⟨hk.1.1,hk.1.2⟩)⟩
            have n2_ : Aside0 (Kd.R (Kd.int .i64) 3 ((((w31.setCell ⟨gb148,0,none⟩ (.slice Ao34 y136.length co34)).setCell ⟨gb148,1,none⟩ (.slice Ao33 y141.length co33)).setCell ⟨gb148,2,none⟩ (.slice Ao32 y145.length co32)).setCell ⟨gb148,3,none⟩ (.slice none 0 0)) w.heap.size (fun k_=>(w.heap.size ≤ k_)∧some k_ ≠ (.slice Ao34 y136.length co34 : Value).ownBlock) (.slice Ao33 y141.length co33) y141):=⟨by exact zS (zX (p:=⟨gb148,3,none⟩) (zX (p:=⟨gb148,2,none⟩) (zX (p:=⟨gb148,1,none⟩) (zX (p:=⟨gb148,0,none⟩) (zBb HO143.out BK148.out (by decide)) (fun _ hk=>hk.2) (.slice Ao34 y136.length co34)) (fun _ hk=>hk.2) (.slice Ao33 y141.length co33)) (fun _ hk=>hk.2) (.slice Ao32 y145.length co32)) (fun _ hk=>hk.2) (.slice none 0 0)) (fun _ hk=>⟨hk.1.1,hk.1.2⟩)⟩
            have n3_ : Aside0 (Kd.R Kd.bool 4 ((((w31.setCell ⟨gb148,0,none⟩ (.slice Ao34 y136.length co34)).setCell ⟨gb148,1,none⟩ (.slice Ao33 y141.length co33)).setCell ⟨gb148,2,none⟩ (.slice Ao32 y145.length co32)).setCell ⟨gb148,3,none⟩ (.slice none 0 0)) w.heap.size (fun k_=>(w.heap.size ≤ k_)) (.slice Ao32 y145.length co32) y145):=⟨by exact zS (zX (p:=⟨gb148,3,none⟩) (zX (p:=⟨gb148,2,none⟩) (zX (p:=⟨gb148,1,none⟩) (zX (p:=⟨gb148,0,none⟩) (zBb HO147.out BK148.out (by decide)) (fun _ hk=>hk.2) (.slice Ao34 y136.length co34)) (fun _ hk=>hk.2) (.slice Ao33 y141.length co33)) (fun _ hk=>hk.2) (.slice Ao32 y145.length co32)) (fun _ hk=>hk.2) (.slice none 0 0)) (fun _ hk=>hk.1)⟩
            have n4_ : Aside0 (((((w31.setCell ⟨gb148,0,none⟩ (.slice Ao34 y136.length co34)).setCell ⟨gb148,1,none⟩ (.slice Ao33 y141.length co33)).setCell ⟨gb148,2,none⟩ (.slice Ao32 y145.length co32)).setCell ⟨gb148,3,none⟩ (.slice none 0 0)).heap[gb131]? = some o4):=⟨by (with_reducible repeat (first|refine zH ?_ _|refine zI ?_|refine zG ?_ _));refine blk_far ?_ NB131_148.out _;(with_reducible repeat (first|refine zH ?_ _|refine zI ?_|refine zG ?_ _));refine blk_far ?_ NB131_148.out _;(with_reducible repeat (first|refine zH ?_ _|refine zI ?_|refine zG ?_ _));refine blk_far ?_ NB131_148.out _;(with_reducible repeat (first|refine zH ?_ _|refine zI ?_|refine zG ?_ _));refine blk_far ?_ NB131_148.out _;exact BK131.out⟩
            have n5_ : Aside0 (((((w31.setCell ⟨gb148,0,none⟩ (.slice Ao34 y136.length co34)).setCell ⟨gb148,1,none⟩ (.slice Ao33 y141.length co33)).setCell ⟨gb148,2,none⟩ (.slice Ao32 y145.length co32)).setCell ⟨gb148,3,none⟩ (.slice none 0 0)).heap[gb148]? = some (.cells #[.slice Ao34 y136.length co34,.slice Ao33 y141.length co33,.slice Ao32 y145.length co32,.slice none 0 0] 30 (0,0))):=⟨by (with_reducible repeat (first|refine zH ?_ _|refine zI ?_|refine zG ?_ _));refine blk_put (cs:=#[.slice Ao34 y136.length co34,.slice Ao33 y141.length co33,.slice Ao32 y145.length co32,.slice none 0 0]) ?_ 3 _ rfl;(with_reducible repeat (first|refine zH ?_ _|refine zI ?_|refine zG ?_ _));refine blk_put (cs:=#[.slice Ao34 y136.length co34,.slice Ao33 y141.length co33,.slice none 0 0,.slice none 0 0]) ?_ 2 _ rfl;(with_reducible repeat (first|refine zH ?_ _|refine zI ?_|refine zG ?_ _));refine blk_put (cs:=#[.slice Ao34 y136.length co34,.slice none 0 0,.slice none 0 0,.slice none 0 0]) ?_ 1 _ rfl;(with_reducible repeat (first|refine zH ?_ _|refine zI ?_|refine zG ?_ _));refine blk_put (cs:=#[.slice none 0 0,.slice none 0 0,.slice none 0 0,.slice none 0 0]) ?_ 0 _ rfl;exact BK148.out⟩
            have n6_ : Aside0 (Below w.heap.size w ((((w31.setCell ⟨gb148,0,none⟩ (.slice Ao34 y136.length co34)).setCell ⟨gb148,1,none⟩ (.slice Ao33 y141.length co33)).setCell ⟨gb148,2,none⟩ (.slice Ao32 y145.length co32)).setCell ⟨gb148,3,none⟩ (.slice none 0 0))):=⟨by repeat (first|(with_reducible first|exact HB.out|apply zA|apply zB|apply zC|refine zF ?_ GE131.out|refine zF ?_ GE148.out)|exact HB.out)⟩
            (try clear HO_4);(try clear HO138);(try clear HO143);(try clear HO147);(try clear BK131);(try clear BK148);(try clear HB);generalize ((((w31.setCell ⟨gb148,0,none⟩ (.slice Ao34 y136.length co34)).setCell ⟨gb148,1,none⟩ (.slice Ao33 y141.length co33)).setCell ⟨gb148,2,none⟩ (.slice Ao32 y145.length co32)).setCell ⟨gb148,3,none⟩ (.slice none 0 0)) = w54 at n0_ n1_ n2_ n3_ n4_ n5_ n6_ ⊢
            have HO_4:=n0_;have HO138:=n1_;have HO143:=n2_;have HO147:=n3_;have BK131:=n4_;have BK148:=n5_;have HB:=n6_;clear n0_ n1_ n2_ n3_ n4_ n5_ n6_;replace HO_4:=zm (zR HO_4.out);replace HO138:=zm (zR HO138.out);replace HO143:=zm (zR HO143.out);replace HO147:=zm (zR HO147.out);replace BK131:=zm (zI BK131.out);replace BK148:=zm (zI BK148.out);replace HB:=zm (zC HB.out);have p149 : 0 ≤ (4 : Int):=(by omega)
            have q149 : 4 < (t132.length : Int):=of_decide_eq_true (by first|(with_reducible assumption)|assumption)
            obtain ⟨ad149,e149,hx149_0⟩:=Kd.at_string (zW HO_4.out).2.2 4 p149 q149;obtain rfl : ad139 = ad149:=(by injection e149)
            (try simp only [show (4 : Int).toNat = 4 from rfl,Nat.reduceMul,Nat.reduceEqDiff,Go.Addr.add,↓reduceIte] at hx149_0)
            have qi149 : (4 < t132.length) = True:=eq_true (by omega)
            (try rw [show ((4 : Int)).toNat = 4 from rfl] at hx149_0)
            replace p149:=eq_true p149;replace q149:=eq_true q149;refine start_ (n:=8) (S:=fun w'=>w'.cell? ⟨gb148,0,none⟩ = some (.slice Ao34 y136.length co34)∧w'.cell? ⟨gb148,1,none⟩ = some (.slice Ao33 y141.length co33)∧w'.cell? ⟨gb148,2,none⟩ = some (.slice Ao32 y145.length co32)∧w'.cell? ⟨gb148,3,none⟩ = some (.slice none 0 0)∧w'.cell? ⟨ad139.block,ad139.off + 4,none⟩ = some (.string (rdOf ByteArray.empty t132 4))) (ds:=[7]) #[n',n',n',n',n',n',n',n'] (by kernel_rfl) rfl rfl ⟨(zD BK148.out 0).trans rfl,(zD BK148.out 1).trans rfl,(zD BK148.out 2).trans rfl,(zD BK148.out 3).trans rfl,hx149_0⟩ (fun hHeld=>?_);refine with_tabW spec_l4signal.tab6 spec_l4signal.bits6 (fun HT_ HW_=>?_)
            generalize w54.drew = w55 at HO_4 HO138 HO143 HO147 BK131 BK148 HB hx149_0 hHeld ⊢
            refine pure_ (i:=0) (N:=some 39) (v:=?_) (a':=?_) #[y',n',n',n',n',n',n',n'] rfl rfl (any_of HT_.out (by kernel_rfl)) (fun _ _ _ h=>h) (Or.inl ⟨by rfl,?_⟩) ?_ ?_
            rotate_left
            ·intro w'
             go_simp
             with_reducible rfl
            rotate_left
            ·simp only [Act.put,u0,u1,u2,i64_w,i32_w]
             rfl
            refine pure_ (i:=2) (N:=some 41) (v:=?_) (a':=?_) #[y',n',y',n',n',n',n',n'] rfl rfl (any_of HT_.out (by kernel_rfl)) (fun _ _ _ h=>h) (Or.inl ⟨by rfl,?_⟩) ?_ ?_
            rotate_left
            ·intro w'
             go_simp
             with_reducible rfl
            rotate_left
            ·simp only [Act.put,u0,u1,u2,i64_w,i32_w]
             rfl
            refine pure_ (i:=3) (N:=some 42) (v:=?_) (a':=?_) #[y',n',y',y',n',n',n',n'] rfl rfl (any_of HT_.out (by kernel_rfl)) (fun _ _ _ h=>h) (Or.inl ⟨by rfl,?_⟩) ?_ ?_
            rotate_left
            ·intro w'
             go_simp
             with_reducible rfl
            rotate_left
            ·simp only [Act.put,u0,u1,u2,i64_w,i32_w]
             rfl
            refine take_ (i:=1) (N:=some 40) (v:=?_) (a':=?_) #[y',y',y',y',n',n',n',n'] rfl rfl (take_ofW HT_.out HW_.out (by kernel_rfl)) (fun _ _ _ h=>h) (Or.inl ⟨by rfl,?_⟩) hHeld ?_ ?_
            rotate_left
            ·rintro w' ⟨s0,s1,s2,s3,s4⟩
             go_simp
             with_reducible rfl
            rotate_left
            ·simp only [Act.put,u0,u1,u2,i64_w,i32_w]
             rfl
            refine take_ (i:=4) (N:=some 43) (v:=?_) (a':=?_) #[y',y',y',y',y',n',n',n'] rfl rfl (take_ofW HT_.out HW_.out (by kernel_rfl)) (fun _ _ _ h=>h) (Or.inl ⟨by rfl,?_⟩) hHeld ?_ ?_
            rotate_left
            ·rintro w' ⟨s0,s1,s2,s3,s4⟩
             go_simp
             with_reducible rfl
            rotate_left
            ·simp only [Act.put,u0,u1,u2,i64_w,i32_w]
             rfl
            refine one_ (i:=5) (N:=some 44) #[y',y',y',y',y',y',n',n'] rfl rfl (one_of HT_.out (by kernel_rfl)) (by decide) (fun K hK=>?_)
            refine goes_ Try.func51 (by kernel_rfl) rfl #[.string (rdOf ByteArray.empty t132 4)] (by rfl) rfl rfl (by (try simp only [List.map_toArray,List.map_cons,List.map_nil]);first|done|rfl|(simp only [List.length_drop,List.length_take];rfl)) ?_
            with_reducible refine (spec_l4num.calls kj2 (rdOf ByteArray.empty t132 4) t150 _ A41.out).mono ?_
            rintro e w56 ⟨rfl,hb⟩
            have HS4_:=z3 hb hHeld.2.2.2.2;refine ⟨_,rfl,?_⟩
            replace HO_4:=zm (zHb (by exact HO_4.out) hb)
            replace HO138:=zm (zHb (by exact HO138.out) hb)
            replace HO143:=zm (zHb (by exact HO143.out) hb)
            replace HO147:=zm (zHb (by exact HO147.out) hb)
            replace BK131:=zm (zL (by exact BK131.out) hb)
            replace BK148:=zm (zL (g:=gb148) (o:=.cells #[.slice Ao34 y136.length co34,.slice Ao33 y141.length co33,.slice Ao32 y145.length co32,.slice none 0 0] 30 (0,0)) (by exact BK148.out) hb)
            replace HB:=zm (zK (by with_reducible repeat first|exact HB.out|apply zA|apply zB|apply zC) hb)
            (try clear hb);(try clear hb2);(try clear hk);(try clear hi);have p43 : 0 ≤ (0 : Int):=(by omega)
            have q43 : (0 : Int) < ((y136.length : Int) : Int):=of_decide_eq_true (by first|(with_reducible assumption)|assumption)
            have qi43 : (0 < y136.length) = True:=eq_true (by omega)
            obtain ⟨go43,co43,eo43,gb43,gl43,cl43,HG43⟩:=Kd.R_form HO138.out (by omega)
            (first|cases eo43|(injection eo43 with ea_ en_ ec_;(first|subst ea_|(injection ea_ with ea_;subst ea_));subst ec_;clear en_))
            have GB43:=zm gb43;have GG43:=zm HG43;clear gb43 gl43 HG43;obtain ⟨hx43_0,hf43_0⟩:=Kd.R_celln 0 HO138.out (0 : Int) p43 q43;(try rw [show ((0 : Int)).toNat = 0 from rfl] at hx43_0)
            (try simp only [Nat.reduceMul,Nat.zero_mul,Nat.zero_add,Nat.reduceAdd] at hx43_0);(try rw [show ((0 : Int)).toNat = 0 from rfl] at hf43_0)
            (try simp only [Nat.reduceMul,Nat.zero_mul,Nat.zero_add,Nat.reduceAdd] at hf43_0);replace p43:=eq_true p43;replace q43:=eq_true q43;have HP57:=Kd.R_putn HO138.out (0 : Int) t150;rw [← Ny151.out] at HP57;have HQ57:=zm HP57;clear HP57;refine hK.out _ _ ⟨(zD BK148.out 0).trans rfl,(zD BK148.out 1).trans rfl,(zD BK148.out 2).trans rfl,(zD BK148.out 3).trans rfl,HS4_⟩ (fun hHeld=>?_)
            clear hK K;refine norm_ (a':=?_) ?_ ?_
            rotate_left
            ·show Act.put _ (some 44) _ = _
             simp only [Act.put,u0,u1,u2,i64_w,i32_w]
             rfl
            refine pure_ (i:=6) (N:=some 45) (v:=?_) (a':=?_) #[y',y',y',y',y',y',y',n'] rfl rfl (any_of HT_.out (by kernel_rfl)) (fun _ _ _ h=>h) (Or.inl ⟨by rfl,?_⟩) ?_ ?_
            rotate_left
            ·intro w'
             go_simp
             with_reducible rfl
            rotate_left
            ·simp only [Act.put,u0,u1,u2,i64_w,i32_w]
             rfl
            refine last_ (i:=7) (N:=none) #[y',y',y',y',y',y',y',y'] rfl rfl (one_of HT_.out (by kernel_rfl)) (by decide) (fun K hK=>?_)
            refine skip_ (w1:=?_) (by rfl) rfl ?_ ?_
            rotate_left
            ·go_simp
             rfl
            refine hK.out _ _ ?_
            clear hK K;refine done_ (done_of HT_.out (by kernel_rfl)) ?_
            have hng148_0 : gb148 ≠ go43:=by have h_:=Kd.R_ne HO138.out BK148.out (by decide);intro e_;exact h_ (by rw [e_];rfl)
            have hng148_1 : go43 ≠ gb148:=by have h_:=Kd.R_ne HO138.out BK148.out (by decide);intro e_;exact h_ (by rw [e_];rfl)
            have hng131_0 : gb131 ≠ go43:=by have h_:=Kd.R_ne HO138.out BK131.out (by decide);intro e_;exact h_ (by rw [e_];rfl)
            have hng131_1 : go43 ≠ gb131:=by have h_:=Kd.R_ne HO138.out BK131.out (by decide);intro e_;exact h_ (by rw [e_];rfl)
            have hnb58:=NB148_131.out;have hnc58:=NB131_148.out;have hcz59_0 : w56.cell? ⟨gb148,0,none⟩ = some (.slice (some ⟨go43,0,none⟩) y136.length co34):=(zD BK148.out 0).trans rfl;have hcz59_1 : w56.cell? ⟨gb148,1,none⟩ = some (.slice Ao33 y141.length co33):=(zD BK148.out 1).trans rfl;have hcz59_2 : w56.cell? ⟨gb148,2,none⟩ = some (.slice Ao32 y145.length co32):=(zD BK148.out 2).trans rfl;have hcz59_3 : w56.cell? ⟨gb148,3,none⟩ = some (.slice none 0 0):=(zD BK148.out 3).trans rfl;have hfz59_0:=zE BK148.out 0;have hfz59_1:=zE BK148.out 1;have hfz59_2:=zE BK148.out 2;have hfz59_3:=zE BK148.out 3;have p44 : 0 ≤ (0 : Int):=(by omega)
            have q44 : (0 : Int) < ((y136.length : Int) : Int):=of_decide_eq_true (by first|(with_reducible assumption)|assumption)
            replace p44:=eq_true p44;replace q44:=eq_true q44;try go_wp2
            go_meet
            case rel=>exact ⟨_,(y151),(y141),(.slice (some ⟨go43,0,none⟩) y136.length co34),(.slice Ao33 y141.length co33),H',⟨by have:=HJ2.out;first|omega|exact Nat.le_refl _⟩,⟨by exact zS (zX (p:=⟨go43,0,none⟩) (zBb HO_4.out GG43.out (by decide)) (fun _ hk=>hk.2) (.int .i64 t150)) (fun _ hk=>hk.1)⟩,⟨by exact HQ57.out⟩,⟨by exact zS (zX (p:=⟨go43,0,none⟩) (zS HO143.out (fun k_ hk=>(⟨hk,fun e_=>hk.2 (by rw [e_];rfl)⟩ : _∧k_ ≠ go43))) (fun _ hk=>hk.2) (.int .i64 t150)) (fun _ hk=>⟨hk.1.1,hk.1.2⟩)⟩,⟨by exact zS (zX (p:=⟨go43,0,none⟩) (zBb HO147.out GG43.out (by decide)) (fun _ hk=>hk.2) (.int .i64 t150)) (fun _ hk=>hk.1)⟩,⟨by (with_reducible repeat (first|refine zH ?_ _|refine zI ?_|refine zG ?_ _));refine blk_far ?_ (by have h_:=Kd.R_ne HO138.out BK131.out (by decide);intro e_;exact h_ (by rw [e_];rfl)) _;exact BK131.out⟩,⟨by (with_reducible repeat (first|refine zH ?_ _|refine zI ?_|refine zG ?_ _));refine blk_far ?_ (by have h_:=Kd.R_ne HO138.out BK148.out (by decide);intro e_;exact h_ (by rw [e_];rfl)) _;exact BK148.out⟩,⟨by repeat (first|(with_reducible first|exact HB.out|apply zA|apply zB|apply zC|refine zF ?_ GB43.out|refine zF ?_ GE131.out|refine zF ?_ GE148.out)|exact HB.out)⟩⟩
          ·rw [if_neg c42] at H;exact absurd H (by simp)
         ·rw [if_neg c40] at H;exact absurd H (by simp)
        ·rw [if_neg c39] at H;have c39b0 : ((t132.length : Int) == 7) = false:=beq_eq_false_iff_ne.mpr c39;have c39b1 : ((t132.length : Int) != 7) = true:=bne_iff_ne.mpr c39;(first|rw [c39b0]|(simp only [i64_w,i32_w];rw [c39b0])|skip)
         have H':=zm H;clear H;go_wp2;go_meet
         case rel=>exact ⟨_,(y136),(y141),(.slice Ao34 y136.length co34),(.slice Ao33 y141.length co33),H',⟨by have:=HJ2.out;first|omega|exact Nat.le_refl _⟩,⟨by exact zS (zX (p:=⟨gb148,3,none⟩) (zX (p:=⟨gb148,2,none⟩) (zX (p:=⟨gb148,1,none⟩) (zX (p:=⟨gb148,0,none⟩) (zBb HO_4.out BK148.out (by decide)) (fun _ hk=>hk.2) (.slice Ao34 y136.length co34)) (fun _ hk=>hk.2) (.slice Ao33 y141.length co33)) (fun _ hk=>hk.2) (.slice Ao32 y145.length co32)) (fun _ hk=>hk.2) (.slice none 0 0)) (fun _ hk=>hk.1)⟩,⟨by exact zS (zX (p:=⟨gb148,3,none⟩) (zX (p:=⟨gb148,2,none⟩) (zX (p:=⟨gb148,1,none⟩) (zX (p:=⟨gb148,0,none⟩) (zBb HO138.out BK148.out (by decide)) (fun _ hk=>hk.2) (.slice Ao34 y136.length co34)) (fun _ hk=>hk.2) (.slice Ao33 y141.length co33)) (fun _ hk=>hk.2) (.slice Ao32 y145.length co32)) (fun _ hk=>hk.2) (.slice none 0 0)) (fun _ hk=>⟨hk.1.1,hk.1.2⟩)⟩,⟨by exact zS (zX (p:=⟨gb148,3,none⟩) (zX (p:=⟨gb148,2,none⟩) (zX (p:=⟨gb148,1,none⟩) (zX (p:=⟨gb148,0,none⟩) (zBb HO143.out BK148.out (by decide)) (fun _ hk=>hk.2) (.slice Ao34 y136.length co34)) (fun _ hk=>hk.2) (.slice Ao33 y141.length co33)) (fun _ hk=>hk.2) (.slice Ao32 y145.length co32)) (fun _ hk=>hk.2) (.slice none 0 0)) (fun _ hk=>⟨hk.1.1,hk.1.2⟩)⟩,⟨by exact zS (zX (p:=⟨gb148,3,none⟩) (zX (p:=⟨gb148,2,none⟩) (zX (p:=⟨gb148,1,none⟩) (zX (p:=⟨gb148,0,none⟩) (zBb HO147.out BK148.out (by decide)) (fun _ hk=>hk.2) (.slice Ao34 y136.length co34)) (fun _ hk=>hk.2) (.slice Ao33 y141.length co33)) (fun _ hk=>hk.2) (.slice Ao32 y145.length co32)) (fun _ hk=>hk.2) (.slice none 0 0)) (fun _ hk=>hk.1)⟩,⟨by (with_reducible repeat (first|refine zH ?_ _|refine zI ?_|refine zG ?_ _));refine blk_far ?_ NB131_148.out _;(with_reducible repeat (first|refine zH ?_ _|refine zI ?_|refine zG ?_ _));refine blk_far ?_ NB131_148.out _;(with_reducible repeat (first|refine zH ?_ _|refine zI ?_|refine zG ?_ _));refine blk_far ?_ NB131_148.out _;(with_reducible repeat (first|refine zH ?_ _|refine zI ?_|refine zG ?_ _));refine blk_far ?_ NB131_148.out _;exact BK131.out⟩,⟨by (with_reducible repeat (first|refine zH ?_ _|refine zI ?_|refine zG ?_ _));refine blk_put (cs:=#[.slice Ao34 y136.length co34,.slice Ao33 y141.length co33,.slice Ao32 y145.length co32,.slice none 0 0]) ?_ 3 _ rfl;(with_reducible repeat (first|refine zH ?_ _|refine zI ?_|refine zG ?_ _));refine blk_put (cs:=#[.slice Ao34 y136.length co34,.slice Ao33 y141.length co33,.slice none 0 0,.slice none 0 0]) ?_ 2 _ rfl;(with_reducible repeat (first|refine zH ?_ _|refine zI ?_|refine zG ?_ _));refine blk_put (cs:=#[.slice Ao34 y136.length co34,.slice none 0 0,.slice none 0 0,.slice none 0 0]) ?_ 1 _ rfl;(with_reducible repeat (first|refine zH ?_ _|refine zI ?_|refine zG ?_ _));refine blk_put (cs:=#[.slice none 0 0,.slice none 0 0,.slice none 0 0,.slice none 0 0]) ?_ 0 _ rfl;exact BK148.out⟩,⟨by repeat (first|(with_reducible first|exact HB.out|apply zA|apply zB|apply zC|refine zF ?_ GE131.out|refine zF ?_ GE148.out)|exact HB.out)⟩⟩
       case rest =>
        clear HC17;(try clear p1);(try clear q1);(try clear hx1);(try clear qi1);(try clear p2);(try clear c3);(try clear c4);(try clear p4);(try clear q4);(try clear hx4);(try clear qi4);(try clear hf4);(try clear c5);(try clear p14);(try clear q14);(try clear hx14);(try clear qi14);(try clear c39);(try clear c39b0);(try clear c39b1);(try clear c40);(try clear c40b0);(try clear c40b1);(try clear c42);(try clear c42b0);(try clear c42b1);(try clear p43);(try clear q43);(try clear hx43);(try clear qi43);(try clear hf43);(try clear p44);(try clear q44);(try clear c45);(try clear c45b0);(try clear c51);(try clear c58);(try clear hcz52_0);(try clear hcz52_1);(try clear hcz52_2);(try clear hcz52_3);(try clear hcz53_0);(try clear hcz53_1);(try clear hcz53_2);(try clear hcz53_3);(try clear hcz59_0);(try clear hcz59_1);(try clear hcz59_2);(try clear hcz59_3);(try clear hfz52_0);(try clear hfz52_1);(try clear hfz52_2);(try clear hfz52_3);(try clear hfz53_0);(try clear hfz53_1);(try clear hfz53_2);(try clear hfz53_3);(try clear hfz59_0);(try clear hfz59_1);(try clear hfz59_2);(try clear hfz59_3);(try clear hx149_0);(try clear hx43_0);(try clear p149);(try clear p43);(try clear p44);(try clear q149);(try clear q43);(try clear q44);obtain ⟨kq,x149000_16,x149001_16,u149000,u149001,HA,HJ16,HO_4,HO_149000,HO_149001,HO_149002,BK131,BK148,HB⟩:=hcut;cases kq with
        | zero=>exact absurd HA.out (by simp [spec_l4signal.j1])
        | succ kj16 =>
         have H:=HA.out;clear HA;simp only [spec_l4signal.j1] at H
         have H':=zm H;clear H;go_wp2;go_loopg [6,7] kj16 (fun kq v6 v7 w'=>∃ (x6_3 : List Bool) (x7_3 : Int),v7 = .int .i64 x7_3∧Aside0 (spec_l4signal.l0 kq a0 t132 x6_3 x7_3 x149000_16 x149001_16 y145 = some (r1,r2,r3,r4,r5))∧Aside0 (kq ≤ kj16)∧Aside0 (Kd.R Kd.string 9 w' w.heap.size (fun k_=>(w.heap.size ≤ k_)) (.slice (some ad139) t132.length co19) t132)∧Aside0 (Kd.R Kd.bool 4 w' w.heap.size (fun k_=>(w.heap.size ≤ k_)∧some k_ ≠ ((.slice Ao32 y145.length co32) : Value).ownBlock) v6 x6_3)∧Aside0 (Kd.R (Kd.int .i64) 3 w' w.heap.size (fun k_=>(w.heap.size ≤ k_)∧some k_ ≠ (u149001 : Value).ownBlock) u149000 x149000_16)∧Aside0 (Kd.R (Kd.int .i64) 3 w' w.heap.size (fun k_=>(w.heap.size ≤ k_)∧some k_ ≠ (u149000 : Value).ownBlock) u149001 x149001_16)∧Aside0 (Kd.R Kd.bool 4 w' w.heap.size (fun k_=>(w.heap.size ≤ k_)∧some k_ ≠ (v6 : Value).ownBlock) (.slice Ao32 y145.length co32) y145)∧Aside0 (w'.heap[gb131]? = some (.cells #[(.slice none 0 0),(.slice none 0 0),(.slice none 0 0),(.slice none 0 0)] 30 (0,0)))∧Aside0 (w'.heap[gb148]? = some (.cells #[u149000,u149001,(.slice Ao32 y145.length co32),(.slice none 0 0)] 30 (0,0)))∧Aside0 (Below w.heap.size w w'))
         case atStart=>exact ⟨(([] : List Bool)),(0),(by first|rfl|(simp;done)|(simp [*];done)),H',⟨Nat.le_refl _⟩,⟨by exact HO_4.out⟩,⟨by first|exact Kd.R_nil _ _ _ _ _|exact Kd.N_nil _ _ _ _ _|exact Kd.V_nil _ _ _ _ _|exact Kd.Q_nil _ _ _ _ _|exact Kd.S_nil _ _ _ _ _⟩,⟨by exact HO_149000.out⟩,⟨by exact HO_149001.out⟩,⟨by exact zS HO_149002.out (fun _ hk=>⟨hk,(by simp [Value.ownBlock])⟩)⟩,⟨by exact BK131.out⟩,⟨by exact BK148.out⟩,⟨by repeat (first|(with_reducible first|exact HB.out|apply zA|apply zB|apply zC|refine zF ?_ GE131.out|refine zF ?_ GE148.out)|exact HB.out)⟩⟩
         case round =>
          clear H';(try clear p1);(try clear q1);(try clear hx1);(try clear qi1);(try clear p2);(try clear c3);(try clear c4);(try clear p4);(try clear q4);(try clear hx4);(try clear qi4);(try clear hf4);(try clear c5);(try clear p14);(try clear q14);(try clear hx14);(try clear qi14);(try clear c39);(try clear c39b0);(try clear c39b1);(try clear c40);(try clear c40b0);(try clear c40b1);(try clear c42);(try clear c42b0);(try clear c42b1);(try clear p43);(try clear q43);(try clear hx43);(try clear qi43);(try clear hf43);(try clear p44);(try clear q44);(try clear c45);(try clear c45b0);(try clear c51);(try clear c58);(try clear hcz52_0);(try clear hcz52_1);(try clear hcz52_2);(try clear hcz52_3);(try clear hcz53_0);(try clear hcz53_1);(try clear hcz53_2);(try clear hcz53_3);(try clear hcz59_0);(try clear hcz59_1);(try clear hcz59_2);(try clear hcz59_3);(try clear hfz52_0);(try clear hfz52_1);(try clear hfz52_2);(try clear hfz52_3);(try clear hfz53_0);(try clear hfz53_1);(try clear hfz53_2);(try clear hfz53_3);(try clear hfz59_0);(try clear hfz59_1);(try clear hfz59_2);(try clear hfz59_3);(try clear hx149_0);(try clear hx43_0);(try clear p1);(try clear p14);(try clear p149);(try clear p2);(try clear p4);(try clear p43);(try clear p44);(try clear q1);(try clear q14);(try clear q149);(try clear q4);(try clear q43);(try clear q44);obtain ⟨x6_3,x7_3,rfl,HA,HK3,HO_4,HO_6,HO_149000,HO_149001,HO_149002,BK131,BK148,HB⟩:=hrel;cases gk with
          | zero=>exact absurd HA.out (by simp [spec_l4signal.l0])
          | succ k3 =>
           have H:=HA.out;clear HA;simp only [spec_l4signal.l0] at H
           by_cases c60 : x7_3 < 4
           ·rw [if_pos c60] at H;have c60b0 : decide (x7_3 < 4) = true:=decide_eq_true c60;clear c60;by_cases c61 : 2 < (t132.length : Int)
            ·rw [if_pos c61] at H;have c61b0 : decide (2 < (t132.length : Int)) = true:=decide_eq_true c61;have c61b1 : decide (2 < t132.length) = true:=decide_eq_true (by omega)
             clear c61;by_cases c62 : 0 ≤ x7_3
             ·rw [if_pos c62] at H;have c62b0 : decide (0 ≤ x7_3) = true:=decide_eq_true c62;clear c62;by_cases c63 : x7_3 < ((rdOf ByteArray.empty t132 2).size : Int)
              ·rw [if_pos c63] at H;have c63b0 : decide (x7_3 < ((rdOf ByteArray.empty t132 2).size : Int)) = true:=decide_eq_true c63;clear c63;by_cases c65 : x6_3.length < 140737488355328
               ·rw [if_pos c65] at H;have LMc65:=zm c65;clear c65;obtain ⟨y154,hy154⟩ : ∃ y_ : List Bool,y_ = (x6_3 ++ [((bt (rdOf ByteArray.empty t132 2) x7_3) != 45)]):=⟨_,rfl⟩;replace H : (spec_l4signal.l0 k3 a0 t132 y154 (wrap64 (x7_3 + 1)) x149000_16 x149001_16 y145) = some (r1,r2,r3,r4,r5):=by first|(rw [hy154];with_reducible exact H)|(have H2_:=(Option.bind_some _ _).symm.trans H;rw [hy154];with_reducible exact H2_)|(have H2_:=(Option.bind_some _ _).symm.trans H;with_reducible exact H2_)|with_reducible exact H|(rw [hy154];exact H)|exact H
                have Ny154:=zm hy154;clear hy154;have H':=zm H;clear H;have p153 : 0 ≤ (2 : Int):=(by omega)
                have q153 : 2 < (t132.length : Int):=of_decide_eq_true (by first|(with_reducible assumption)|assumption)
                obtain ⟨ad153,e153,hx153_0⟩:=Kd.at_string (zW HO_4.out).2.2 2 p153 q153;obtain rfl : ad139 = ad153:=(by injection e153)
                (try simp only [show (2 : Int).toNat = 2 from rfl,Nat.reduceMul,Nat.reduceEqDiff,Go.Addr.add,↓reduceIte] at hx153_0)
                have qi153 : (2 < t132.length) = True:=eq_true (by omega)
                (try rw [show ((2 : Int)).toNat = 2 from rfl] at hx153_0)
                replace p153:=eq_true p153;replace q153:=eq_true q153;have p64 : 0 ≤ (x7_3 : Int):=of_decide_eq_true (by first|(with_reducible assumption)|assumption)
                have q64 : x7_3 < ((rdOf ByteArray.empty t132 2).size : Int):=of_decide_eq_true (by first|(with_reducible assumption)|assumption)
                have hx64:=bt_at (rdOf ByteArray.empty t132 2) x7_3;replace p64:=eq_true p64;replace q64:=eq_true q64;go_wp2_with (first|((with_reducible refine gate_builtin (b:=.append) (xs:=#[.tmp 56,.tmp 63]) rfl ?_);(try (refine gate_guard (by rfl) ?_;dsimp only));at_builtin;refine Kd.R_append Kd.bool (w0:=w) w.heap.size rfl (.tmp 56) (.tmp 63) 23 4 (.bool false) 1 rfl Try.underlying23 info4 rfl (by decide) (by omega) u6 x6_3 ((bt (rdOf ByteArray.empty t132 2) x7_3) != 45) [.bool ((bt (rdOf ByteArray.empty t132 2) x7_3) != 45)] (fun k_=>(w.heap.size ≤ k_)∧some k_ ≠ (.slice Ao32 y145.length co32 : Value).ownBlock) (fun _=>False) rfl rfl ?aP (fun _ hk=>hk.elim) ?aF ?aO ?aB ?aS ?aL ?_;(case aP=>exact rfl);(case aB=>exact (by with_reducible repeat first|exact HB.out|apply zA|apply zB|apply zC));(case aF=>exact (fun k_ hk=>⟨(Nat.le_trans (zJ (by with_reducible repeat first|exact HB.out|apply zA|apply zB|apply zC)) hk),Kd.fresh' (Kd.R_lt (by exact HO_149002.out)) k_ hk⟩));(case aO=>exact (by exact HO_6.out));(case aS=>exact (zJ (by with_reducible repeat first|exact HB.out|apply zA|apply zB|apply zC)));(case aL=>have:=LMc65.out;omega);intro v155 w66 ho hb hg hat;rw [← Ny154.out] at ho;replace HO_4:=zm (Kd.R_over' (by exact HO_4.out) (Kd.R_typed (by exact HO_6.out)) (by decide) hg);replace HO_149000:=zm (Kd.R_over' (by exact HO_149000.out) (Kd.R_typed (by exact HO_6.out)) (by decide) hg);replace HO_149001:=zm (Kd.R_over' (by exact HO_149001.out) (Kd.R_typed (by exact HO_6.out)) (by decide) hg);replace HO_149002:=zm (Kd.R_after (ok:=(fun k_=>(w.heap.size ≤ k_))) (by exact HO_149002.out) hg hat);replace BK131:=zm (blk_grown (g:=gb131) (o:=.cells #[.slice none 0 0,.slice none 0 0,.slice none 0 0,.slice none 0 0] 30 (0,0)) (by exact BK131.out) hg (Kd.R_ne HO_6.out BK131.out (by decide)));replace BK148:=zm (blk_grown (g:=gb148) (o:=.cells #[u149000,u149001,.slice Ao32 y145.length co32,.slice none 0 0] 30 (0,0)) (by exact BK148.out) hg (Kd.R_ne HO_6.out BK148.out (by decide)));replace HB:=zm (hb);have HO156:=zm (ho);clear HO_6;clear ho hb hg hat))
                go_roundg k3
                case measure=>have:=HJ2.out;have:=HJ16.out;have:=HK3.out;omega
                case rel=>exact ⟨(y154),(wrap64 (x7_3 + 1)),(by first|rfl|(simp;done)|(simp [*];done)),H',⟨by have:=HJ2.out;have:=HJ16.out;have:=HK3.out;omega⟩,⟨by exact HO_4.out⟩,⟨by exact HO156.out⟩,⟨by exact HO_149000.out⟩,⟨by exact HO_149001.out⟩,⟨by exact HO_149002.out⟩,⟨by exact BK131.out⟩,⟨by exact BK148.out⟩,⟨by repeat (first|(with_reducible first|exact HB.out|apply zA|apply zB|apply zC|refine zF ?_ GE131.out|refine zF ?_ GE148.out)|exact HB.out)⟩⟩
               ·rw [if_neg c65] at H;exact absurd H (by simp)
              ·rw [if_neg c63] at H;exact absurd H (by simp)
             ·rw [if_neg c62] at H;exact absurd H (by simp)
            ·rw [if_neg c61] at H;exact absurd H (by simp)
           ·rw [if_neg c60] at H;have c60b0 : decide (x7_3 < 4) = false:=decide_eq_false c60;clear c60;obtain ⟨y157,hy157⟩ : ∃ y_ : List (List Bool),y_ = (([x6_3] : List (List Bool))):=⟨_,rfl⟩;replace H : (if 0 < (x149001_16.length : Int) then (if (rd x149001_16 0) ≥ 0 then ((spec_l4line.f k3 x149000_16 x149001_16 y145 y157 0).bind fun t161=>(some (x149000_16,x149001_16,y145,y157,(t161.toList == a0.toList)))) else (some (x149000_16,x149001_16,y145,y157,false))) else (none)) = some (r1,r2,r3,r4,r5):=by first|(rw [hy157];with_reducible exact H)|(have H2_:=(Option.bind_some _ _).symm.trans H;rw [hy157];with_reducible exact H2_)|(have H2_:=(Option.bind_some _ _).symm.trans H;with_reducible exact H2_)|with_reducible exact H|(rw [hy157];exact H)|exact H
            have Ny157:=zm hy157;clear hy157;by_cases c67 : 0 < (x149001_16.length : Int)
            ·rw [if_pos c67] at H;have c67b0 : decide (0 < (x149001_16.length : Int)) = true:=decide_eq_true c67;have c67b1 : decide (0 < x149001_16.length) = true:=decide_eq_true (by omega)
             clear c67;by_cases c68 : (rd x149001_16 0) ≥ 0
             ·rw [if_pos c68] at H;have c68b0 : decide (0 ≤ (rd x149001_16 0)) = true:=decide_eq_true c68;clear c68;replace H:=Option.bind_eq_some_iff.mp H;obtain ⟨t161,A690,H⟩:=H;replace H : (some (x149000_16,x149001_16,y145,y157,(t161.toList == a0.toList))) = some (r1,r2,r3,r4,r5):=H;have A69:=zm A690;clear A690;simp only [Option.some.injEq,Prod.mk.injEq] at H
              obtain ⟨rfl,rfl,rfl,rfl,rfl⟩:=H;obtain ⟨Ao70,co70,eo70⟩:=zAb HO_6.out;subst eo70
              try go_wp2_with (first|((with_reducible refine zM (N:=66) rfl ?_);(try (refine gate_guard (by rfl) ?_;dsimp only));refine Kd.N_lit (Kd.slice 4 Kd.bool) _ 23 ?hg (N':=66) ?hd (xs:=([x6_3] : List (List Bool))) (inner:=[.slice Ao70 x6_3.length co70]) (ok:=(fun k_=>(w.heap.size ≤ k_)∧some k_ ≠ (.slice (some ad139) t132.length co19 : Value).ownBlock∧some k_ ≠ (u149000 : Value).ownBlock∧some k_ ≠ (u149001 : Value).ownBlock∧some k_ ≠ (.slice Ao32 y145.length co32 : Value).ownBlock∧k_ ≠ gb131∧k_ ≠ gb148)) (okp:=(fun k_=>(w.heap.size ≤ k_)∧some k_ ≠ (.slice (some ad139) t132.length co19 : Value).ownBlock∧some k_ ≠ (u149000 : Value).ownBlock∧some k_ ≠ (u149001 : Value).ownBlock∧some k_ ≠ (.slice Ao32 y145.length co32 : Value).ownBlock∧k_ ≠ gb131∧k_ ≠ gb148)) ?hr ?hp (fun _ hk=>hk) ((show ∀ k_,wr.heap.size ≤ k_→(fun k_=>(w.heap.size ≤ k_)∧some k_ ≠ (.slice (some ad139) t132.length co19 : Value).ownBlock∧some k_ ≠ (u149000 : Value).ownBlock∧some k_ ≠ (u149001 : Value).ownBlock∧some k_ ≠ (.slice Ao32 y145.length co32 : Value).ownBlock∧k_ ≠ gb131∧k_ ≠ gb148) k_ from fun k_ hk=>⟨(Nat.le_trans (zJ (by with_reducible repeat first|exact HB.out|apply zA|apply zB|apply zC)) hk),Kd.fresh' (Kd.R_lt (by exact HO_4.out)) k_ hk,Kd.fresh' (Kd.R_lt (by exact HO_149000.out)) k_ hk,Kd.fresh' (Kd.R_lt (by exact HO_149001.out)) k_ hk,Kd.fresh' (Kd.R_lt (by exact HO_149002.out)) k_ hk,Kd.freshB (g:=gb131) (o:=.cells #[.slice none 0 0,.slice none 0 0,.slice none 0 0,.slice none 0 0] 30 (0,0)) (by exact BK131.out) k_ hk,Kd.freshB (g:=gb148) (o:=.cells #[u149000,u149001,.slice Ao32 y145.length co32,.slice none 0 0] 30 (0,0)) (by exact BK148.out) k_ hk⟩) _ (Nat.le_refl _)) (Below.refl _ _) (Nat.le_refl _) (by simp) ?_;(case hd=>rfl);(case hg=>rfl);(case hr=>first|(go_simp;done)|(go_simp;rfl));(case hp=>exact (Reps.one (show Kd.FK (Kd.slice 4 Kd.bool) _ _ x6_3 [.slice Ao70 x6_3.length co70] from (Kd.FK_slice_mk (zW (zS (ok':=(fun k_=>(w.heap.size ≤ k_)∧some k_ ≠ (.slice (some ad139) t132.length co19 : Value).ownBlock∧some k_ ≠ (u149000 : Value).ownBlock∧some k_ ≠ (u149001 : Value).ownBlock∧some k_ ≠ (.slice Ao32 y145.length co32 : Value).ownBlock∧k_ ≠ gb131∧k_ ≠ gb148)) (zBb (zBb (Kd.R_apart' (Kd.R_apart' (Kd.R_apart' (HO_6.out) (Kd.R_typed HO_4.out) (by decide)) (Kd.R_typed HO_149000.out) (by decide)) (Kd.R_typed HO_149001.out) (by decide)) BK131.out (by decide)) BK148.out (by decide)) (fun k_ hk=>⟨hk.1.1.1.1.1.1,⟨hk.1.1.1.1.2,⟨hk.1.1.1.2,⟨hk.1.1.2,⟨hk.1.1.1.1.1.2,⟨hk.1.2,hk.2⟩⟩⟩⟩⟩⟩))).2.1 (Kd.R_F (zS (ok':=(fun k_=>(w.heap.size ≤ k_)∧some k_ ≠ (.slice (some ad139) t132.length co19 : Value).ownBlock∧some k_ ≠ (u149000 : Value).ownBlock∧some k_ ≠ (u149001 : Value).ownBlock∧some k_ ≠ (.slice Ao32 y145.length co32 : Value).ownBlock∧k_ ≠ gb131∧k_ ≠ gb148)) (zBb (zBb (Kd.R_apart' (Kd.R_apart' (Kd.R_apart' (HO_6.out) (Kd.R_typed HO_4.out) (by decide)) (Kd.R_typed HO_149000.out) (by decide)) (Kd.R_typed HO_149001.out) (by decide)) BK131.out (by decide)) BK148.out (by decide)) (fun k_ hk=>⟨hk.1.1.1.1.1.1,⟨hk.1.1.1.1.2,⟨hk.1.1.1.2,⟨hk.1.1.2,⟨hk.1.1.1.1.1.2,⟨hk.1.2,hk.2⟩⟩⟩⟩⟩⟩))))) (Reps.none _ _)));intro v158 w71 ho72 hb hg_ hnew_;clear hg_ hnew_;(first|rw [← Ny157.out] at ho72|(simp only [Int.reduceToNat] at ho72;rw [← Ny157.out] at ho72));replace HO_4:=zm (zHb (by exact HO_4.out) hb);replace HO_149000:=zm (zHb (by exact HO_149000.out) hb);replace HO_149001:=zm (zHb (by exact HO_149001.out) hb);replace HO_149002:=zm (zHb (by exact HO_149002.out) hb);have HO159:=zm (Kd.N_lower ho72 (zJ (by with_reducible repeat first|exact HB.out|apply zA|apply zB|apply zC)));replace BK131:=zm (zL (by exact BK131.out) hb);replace BK148:=zm (zL (g:=gb148) (o:=.cells #[u149000,u149001,.slice Ao32 y145.length co32,.slice none 0 0] 30 (0,0)) (by exact BK148.out) hb);replace HB:=zm (zK (by with_reducible repeat first|exact HB.out|apply zA|apply zB|apply zC) hb);clear HO_6;clear hb ho72;obtain ⟨Ao73,co73,eo73⟩:=Kd.N_slice HO159.out;subst eo73;have hnb74:=NB148_131.out;have hnc74:=NB131_148.out;have hcz75_0 : w71.cell? ⟨gb148,0,none⟩ = some (u149000):=(zD BK148.out 0).trans rfl;have hcz75_1 : w71.cell? ⟨gb148,1,none⟩ = some (u149001):=(zD BK148.out 1).trans rfl;have hcz75_2 : w71.cell? ⟨gb148,2,none⟩ = some (.slice Ao32 y145.length co32):=(zD BK148.out 2).trans rfl;have hcz75_3 : w71.cell? ⟨gb148,3,none⟩ = some (.slice none 0 0):=(zD BK148.out 3).trans rfl;have hfz75_0:=zE BK148.out 0;have hfz75_1:=zE BK148.out 1;have hfz75_2:=zE BK148.out 2;have hfz75_3:=zE BK148.out 3))
              have n0_ : Aside0 (Kd.R Kd.string 9 (w71.setCell ⟨gb148,3,none⟩ (.slice Ao73 y157.length co73)) w.heap.size (fun k_=>(w.heap.size ≤ k_)) (.slice (some ad139) t132.length co19) t132):=⟨by exact zS (zX (p:=⟨gb148,3,none⟩) (zBb HO_4.out BK148.out (by decide)) (fun _ hk=>hk.2) (.slice Ao73 y157.length co73)) (fun _ hk=>hk.1)⟩
              have n1_ : Aside0 (Kd.R (Kd.int .i64) 3 (w71.setCell ⟨gb148,3,none⟩ (.slice Ao73 y157.length co73)) w.heap.size (fun k_=>(w.heap.size ≤ k_)∧some k_ ≠ (u149001 : Value).ownBlock) u149000 x149000_16):=⟨by exact zS (zX (p:=⟨gb148,3,none⟩) (zBb HO_149000.out BK148.out (by decide)) (fun _ hk=>hk.2) (.slice Ao73 y157.length co73)) (fun _ hk=>⟨hk.1.1,hk.1.2⟩)⟩
              have n2_ : Aside0 (Kd.R (Kd.int .i64) 3 (w71.setCell ⟨gb148,3,none⟩ (.slice Ao73 y157.length co73)) w.heap.size (fun k_=>(w.heap.size ≤ k_)∧some k_ ≠ (u149000 : Value).ownBlock) u149001 x149001_16):=⟨by exact zS (zX (p:=⟨gb148,3,none⟩) (zBb HO_149001.out BK148.out (by decide)) (fun _ hk=>hk.2) (.slice Ao73 y157.length co73)) (fun _ hk=>⟨hk.1.1,hk.1.2⟩)⟩
              have n3_ : Aside0 (Kd.R Kd.bool 4 (w71.setCell ⟨gb148,3,none⟩ (.slice Ao73 y157.length co73)) w.heap.size (fun k_=>(w.heap.size ≤ k_)) (.slice Ao32 y145.length co32) y145):=⟨by exact zS (zX (p:=⟨gb148,3,none⟩) (zBb HO_149002.out BK148.out (by decide)) (fun _ hk=>hk.2) (.slice Ao73 y157.length co73)) (fun _ hk=>hk.1.1)⟩
              have n4_ : Aside0 (Kd.N (Kd.slice 4 Kd.bool) 23 (w71.setCell ⟨gb148,3,none⟩ (.slice Ao73 y157.length co73)) w.heap.size (fun k_=>(w.heap.size ≤ k_)∧some k_ ≠ (.slice (some ad139) t132.length co19 : Value).ownBlock∧some k_ ≠ (u149000 : Value).ownBlock∧some k_ ≠ (u149001 : Value).ownBlock∧some k_ ≠ (.slice Ao32 y145.length co32 : Value).ownBlock∧k_ ≠ gb131∧k_ ≠ gb148) (.slice Ao73 y157.length co73) y157):=⟨by (with_reducible repeat (first|apply zJb|apply zKb|apply zLb));exact Kd.N_mono (Kd.N_far (p:=⟨gb148,3,none⟩) (Kd.N_mono HO159.out (fun k_ hk=>(⟨hk,hk.2.2.2.2.2.2⟩ : _∧k_ ≠ gb148))) (fun _ hk=>hk.2) (.slice Ao73 y157.length co73)) (fun _ hk=>⟨hk.1.1,⟨hk.1.2.1,⟨hk.1.2.2.1,⟨hk.1.2.2.2.1,⟨hk.1.2.2.2.2.1,⟨hk.1.2.2.2.2.2.1,hk.1.2.2.2.2.2.2⟩⟩⟩⟩⟩⟩)⟩
              have n5_ : Aside0 ((w71.setCell ⟨gb148,3,none⟩ (.slice Ao73 y157.length co73)).heap[gb131]? = some o4):=⟨by (with_reducible repeat (first|refine zH ?_ _|refine zI ?_|refine zG ?_ _));refine blk_far ?_ NB131_148.out _;exact BK131.out⟩
              have n6_ : Aside0 ((w71.setCell ⟨gb148,3,none⟩ (.slice Ao73 y157.length co73)).heap[gb148]? = some (.cells #[u149000,u149001,.slice Ao32 y145.length co32,.slice Ao73 y157.length co73] 30 (0,0))):=⟨by (with_reducible repeat (first|refine zH ?_ _|refine zI ?_|refine zG ?_ _));refine blk_put (cs:=#[u149000,u149001,.slice Ao32 y145.length co32,.slice none 0 0]) ?_ 3 _ rfl;exact BK148.out⟩
              have n7_ : Aside0 (Below w.heap.size w (w71.setCell ⟨gb148,3,none⟩ (.slice Ao73 y157.length co73))):=⟨by repeat (first|(with_reducible first|exact HB.out|apply zA|apply zB|apply zC|refine zF ?_ GE131.out|refine zF ?_ GE148.out)|exact HB.out)⟩
              (try clear HO_4);(try clear HO_149000);(try clear HO_149001);(try clear HO_149002);(try clear HO159);(try clear BK131);(try clear BK148);(try clear HB);generalize (w71.setCell ⟨gb148,3,none⟩ (.slice Ao73 y157.length co73)) = w76 at n0_ n1_ n2_ n3_ n4_ n5_ n6_ n7_ ⊢
              have HO_4:=n0_;have HO_149000:=n1_;have HO_149001:=n2_;have HO_149002:=n3_;have HO159:=n4_;have BK131:=n5_;have BK148:=n6_;have HB:=n7_;clear n0_ n1_ n2_ n3_ n4_ n5_ n6_ n7_;replace HO_4:=zm (zR HO_4.out);replace HO_149000:=zm (zR HO_149000.out);replace HO_149001:=zm (zR HO_149001.out);replace HO_149002:=zm (zR HO_149002.out);replace HO159:=zm (zLb HO159.out);replace BK131:=zm (zI BK131.out);replace BK148:=zm (zI BK148.out);replace HB:=zm (zC HB.out);obtain ⟨Ao78,co78,eo78⟩:=zAb HO_149001.out;(first|subst eo78|(injection eo78 with f1_ f2_ f3_;have f4_:=f1_.symm;have f5_:=f3_.symm;clear f1_ f2_ f3_;subst f4_;subst f5_))
              have p160 : 0 ≤ (0 : Int):=(by omega)
              have q160 : 0 < (x149001_16.length : Int):=of_decide_eq_true (by first|(with_reducible assumption)|assumption)
              obtain ⟨ad160,e160,hx160_0⟩:=Kd.at_int (zW HO_149001.out).2.2 0 p160 q160;cases e160;have qi160 : (0 < x149001_16.length) = True:=eq_true (by omega)
              (try rw [show ((0 : Int)).toNat = 0 from rfl] at hx160_0)
              (try rw [Addr.add_zero'] at hx160_0);replace p160:=eq_true p160;replace q160:=eq_true q160;obtain ⟨Ao79,co79,eo79⟩:=zAb HO_149000.out;(first|subst eo79|(injection eo79 with f1_ f2_ f3_;have f4_:=f1_.symm;have f5_:=f3_.symm;clear f1_ f2_ f3_;subst f4_;subst f5_))
              refine start_ (n:=14) (S:=fun w'=>w'.cell? ⟨gb148,0,none⟩ = some (.slice Ao79 x149000_16.length co79)∧w'.cell? ⟨gb148,1,none⟩ = some (.slice (some ad160) x149001_16.length co78)∧w'.cell? ⟨gb148,2,none⟩ = some (.slice Ao32 y145.length co32)∧w'.cell? ⟨gb148,3,none⟩ = some (.slice Ao73 y157.length co73)∧w'.cell? ad160 = some (.int .i64 (rd x149001_16 0))) (ds:=[]) #[n',n',n',n',n',n',n',n',n',n',n',n',n',n'] (by kernel_rfl) rfl rfl ⟨(zD BK148.out 0).trans rfl,(zD BK148.out 1).trans rfl,(zD BK148.out 2).trans rfl,(zD BK148.out 3).trans rfl,hx160_0⟩ (fun hHeld=>?_);refine with_tabW spec_l4signal.tab15 spec_l4signal.bits15 (fun HT_ HW_=>?_)
              generalize w76.drew = w77 at HO_4 HO_149000 HO_149001 HO_149002 HO159 BK131 BK148 HB hx160_0 hHeld ⊢
              refine pure_ (i:=1) (N:=some 69) (v:=?_) (a':=?_) #[n',y',n',n',n',n',n',n',n',n',n',n',n',n'] rfl rfl (any_of HT_.out (by kernel_rfl)) (fun _ _ _ h=>h) (Or.inl ⟨by rfl,?_⟩) ?_ ?_
              rotate_left
              ·intro w'
               go_simp
               with_reducible rfl
              rotate_left
              ·simp only [Act.put,u0,u1,u2,i64_w,i32_w]
               rfl
              refine take_ (i:=0) (N:=some 68) (v:=?_) (a':=?_) #[y',y',n',n',n',n',n',n',n',n',n',n',n',n'] rfl rfl (take_ofW HT_.out HW_.out (by kernel_rfl)) (fun _ _ _ h=>h) (Or.inl ⟨by rfl,?_⟩) hHeld ?_ ?_
              rotate_left
              ·rintro w' ⟨s0,s1,s2,s3,s4⟩
               go_simp
               with_reducible rfl
              rotate_left
              ·simp only [Act.put,u0,u1,u2,i64_w,i32_w]
               rfl
              refine take_ (i:=2) (N:=some 70) (v:=?_) (a':=?_) #[y',y',y',n',n',n',n',n',n',n',n',n',n',n'] rfl rfl (take_ofW HT_.out HW_.out (by kernel_rfl)) (fun _ _ _ h=>h) (Or.inl ⟨by rfl,?_⟩) hHeld ?_ ?_
              rotate_left
              ·rintro w' ⟨s0,s1,s2,s3,s4⟩
               go_simp
               with_reducible rfl
              rotate_left
              ·simp only [Act.put,u0,u1,u2,i64_w,i32_w]
               rfl
              refine pure_ (i:=3) (N:=some 71) (v:=?_) (a':=?_) #[y',y',y',y',n',n',n',n',n',n',n',n',n',n'] rfl rfl (any_of HT_.out (by kernel_rfl)) (fun _ _ _ h=>h) (Or.inl ⟨by rfl,?_⟩) ?_ ?_
              rotate_left
              ·intro w'
               go_simp
               with_reducible rfl
              rotate_left
              ·simp only [Act.put,u0,u1,u2,i64_w,i32_w]
               rfl
              refine take_ (i:=4) (N:=some 72) (v:=?_) (a':=?_) #[y',y',y',y',y',n',n',n',n',n',n',n',n',n'] rfl rfl (take_ofW HT_.out HW_.out (by kernel_rfl)) (fun _ _ _ h=>h) (Or.inl ⟨by rfl,?_⟩) hHeld ?_ ?_
              rotate_left
              ·rintro w' ⟨s0,s1,s2,s3,s4⟩
               go_simp
               with_reducible rfl
              rotate_left
              ·simp only [Act.put,u0,u1,u2,i64_w,i32_w]
               rfl
              refine pure_ (i:=5) (N:=some 73) (v:=?_) (a':=?_) #[y',y',y',y',y',y',n',n',n',n',n',n',n',n'] rfl rfl (any_of HT_.out (by kernel_rfl)) (fun _ _ _ h=>h) (Or.inl ⟨by rfl,?_⟩) ?_ ?_
              rotate_left
              ·intro w'
               go_simp
               with_reducible rfl
              rotate_left
              ·simp only [Act.put,u0,u1,u2,i64_w,i32_w]
               rfl
              refine pure_ (i:=6) (N:=some 74) (v:=?_) (a':=?_) #[y',y',y',y',y',y',y',n',n',n',n',n',n',n'] rfl rfl (any_of HT_.out (by kernel_rfl)) (fun _ _ _ h=>h) (Or.inl ⟨by rfl,?_⟩) ?_ ?_
              rotate_left
              ·intro w'
               go_simp
               with_reducible rfl
              rotate_left
              ·simp only [Act.put,u0,u1,u2,i64_w,i32_w]
               rfl
              refine pure_ (i:=9) (N:=some 77) (v:=?_) (a':=?_) #[y',y',y',y',y',y',y',n',n',y',n',n',n',n'] rfl rfl (any_of HT_.out (by kernel_rfl)) (fun _ _ _ h=>h) (Or.inl ⟨by rfl,?_⟩) ?_ ?_
              rotate_left
              ·intro w'
               go_simp
               with_reducible rfl
              rotate_left
              ·simp only [Act.put,u0,u1,u2,i64_w,i32_w]
               rfl
              refine take_ (i:=7) (N:=some 75) (v:=?_) (a':=?_) #[y',y',y',y',y',y',y',y',n',y',n',n',n',n'] rfl rfl (take_ofW HT_.out HW_.out (by kernel_rfl)) (fun _ _ _ h=>h) (Or.inl ⟨by rfl,?_⟩) hHeld ?_ ?_
              rotate_left
              ·rintro w' ⟨s0,s1,s2,s3,s4⟩
               go_simp
               with_reducible rfl
              rotate_left
              ·simp only [Act.put,u0,u1,u2,i64_w,i32_w]
               rfl
              refine one_ (i:=8) (N:=some 76) #[y',y',y',y',y',y',y',y',y',y',n',n',n',n'] rfl rfl (one_of HT_.out (by kernel_rfl)) (by decide) (fun K hK=>?_)
              refine goes_ Try.func52 (by kernel_rfl) rfl #[.agg #[.slice Ao79 x149000_16.length co79,.slice (some ad160) x149001_16.length co78,.slice Ao32 y145.length co32,.slice Ao73 y157.length co73],.int .i64 0] (by rfl) rfl rfl (by (try simp only [List.map_toArray,List.map_cons,List.map_nil]);first|done|rfl|(simp only [List.length_drop,List.length_take];rfl)) ?_
              with_reducible refine (spec_l4line.calls k3 _ _ x149000_16 _ _ x149001_16 _ _ y145 _ _ y157 0 t161 _ ?side1 ?side2 ?side3 ?side4 ?side5 ?side6 ?side7 ?side8 A69.out).mono ?_
              (case side1=>repeat (first|exact (zW HO_149000.out).2.2|(with_reducible refine zT ?_ _)|(with_reducible refine zU ?_ _)|(with_reducible refine zV ?_)))
              (case side2=>exact (zW HO_149000.out).2.1)
              (case side3=>repeat (first|exact (zW HO_149001.out).2.2|(with_reducible refine zT ?_ _)|(with_reducible refine zU ?_ _)|(with_reducible refine zV ?_)))
              (case side4=>exact (zW HO_149001.out).2.1)
              (case side5=>repeat (first|exact (zW HO_149002.out).2.2|(with_reducible refine zT ?_ _)|(with_reducible refine zU ?_ _)|(with_reducible refine zV ?_)))
              (case side6=>exact (zW HO_149002.out).2.1)
              (case side7=>repeat (first|exact (Kd.N_reads' HO159.out).2.2|(with_reducible refine zT ?_ _)|(with_reducible refine zU ?_ _)|(with_reducible refine zV ?_)))
              (case side8=>exact (Kd.N_reads' HO159.out).2.1)
              rintro e w80 ⟨rfl,hb⟩
              have HS4_:=z3 hb hHeld.2.2.2.2;refine ⟨_,rfl,?_⟩
              replace HO_4:=zm (zHb (by exact HO_4.out) hb)
              replace HO_149000:=zm (zHb (by exact HO_149000.out) hb)
              replace HO_149001:=zm (zHb (by exact HO_149001.out) hb)
              replace HO_149002:=zm (zHb (by exact HO_149002.out) hb)
              replace HO159:=zm (Kd.N_below (by (with_reducible repeat (first|apply zJb|apply zKb|apply zLb));exact HO159.out) hb)
              replace BK131:=zm (zL (by exact BK131.out) hb)
              replace BK148:=zm (zL (g:=gb148) (o:=.cells #[.slice Ao79 x149000_16.length co79,.slice (some ad160) x149001_16.length co78,.slice Ao32 y145.length co32,.slice Ao73 y157.length co73] 30 (0,0)) (by exact BK148.out) hb)
              replace HB:=zm (zK (by with_reducible repeat first|exact HB.out|apply zA|apply zB|apply zC) hb)
              (try clear hb);(try clear hb2);(try clear hk);(try clear hi);refine hK.out _ _ ⟨(zD BK148.out 0).trans rfl,(zD BK148.out 1).trans rfl,(zD BK148.out 2).trans rfl,(zD BK148.out 3).trans rfl,HS4_⟩ (fun hHeld=>?_)
              clear hK K;refine norm_ (a':=?_) ?_ ?_
              rotate_left
              ·show Act.put _ (some 76) _ = _
               simp only [Act.put,u0,u1,u2,i64_w,i32_w]
               rfl
              refine pure_ (i:=10) (N:=some 78) (v:=?_) (a':=?_) #[y',y',y',y',y',y',y',y',y',y',y',n',n',n'] rfl rfl (any_of HT_.out (by kernel_rfl)) (fun _ _ _ h=>h) (Or.inl ⟨by rfl,?_⟩) ?_ ?_
              rotate_left
              ·intro w'
               go_simp
               with_reducible rfl
              rotate_left
              ·simp only [Act.put,u0,u1,u2,i64_w,i32_w]
               rfl
              refine pure_ (i:=11) (N:=some 79) (v:=?_) (a':=?_) #[y',y',y',y',y',y',y',y',y',y',y',y',n',n'] rfl rfl (any_of HT_.out (by kernel_rfl)) (fun _ _ _ h=>h) (Or.inl ⟨by rfl,?_⟩) ?_ ?_
              rotate_left
              ·intro w'
               go_simp
               with_reducible rfl
              rotate_left
              ·simp only [Act.put,u0,u1,u2,i64_w,i32_w]
               rfl
              refine one_ (i:=12) (N:=none) #[y',y',y',y',y',y',y',y',y',y',y',y',y',n'] rfl rfl (one_of HT_.out (by kernel_rfl)) (by decide) (fun K hK=>?_)
              have hs81 : w80.cell? ⟨gb131,0,none⟩ = some (.slice none 0 0):=(zD BK131.out 0).trans rfl;have hfs81:=zE BK131.out 0;have hns81_1:=NB148_131.out;have hms81_1:=NB131_148.out;have hs82 : w80.cell? ⟨gb131,1,none⟩ = some (.slice none 0 0):=(zD BK131.out 1).trans rfl;have hfs82:=zE BK131.out 1;have hns82_1:=NB148_131.out;have hms82_1:=NB131_148.out;have hs83 : w80.cell? ⟨gb131,2,none⟩ = some (.slice none 0 0):=(zD BK131.out 2).trans rfl;have hfs83:=zE BK131.out 2;have hns83_1:=NB148_131.out;have hms83_1:=NB131_148.out;have hs84 : w80.cell? ⟨gb131,3,none⟩ = some (.slice none 0 0):=(zD BK131.out 3).trans rfl;have hfs84:=zE BK131.out 3;have hns84_1:=NB148_131.out;have hms84_1:=NB131_148.out;refine skip_ (w1:=?_) (by rfl) rfl ?_ ?_
              rotate_left
              ·go_simp
               rfl
              refine hK.out _ _ ⟨((cell_far (p:=⟨gb131,_,none⟩) NB148_131.out _).trans (((cell_far (p:=⟨gb131,_,none⟩) NB148_131.out _).trans (((cell_far (p:=⟨gb131,_,none⟩) NB148_131.out _).trans (((cell_far (p:=⟨gb131,_,none⟩) NB148_131.out _).trans (hHeld.1)))))))),((cell_far (p:=⟨gb131,_,none⟩) NB148_131.out _).trans (((cell_far (p:=⟨gb131,_,none⟩) NB148_131.out _).trans (((cell_far (p:=⟨gb131,_,none⟩) NB148_131.out _).trans (((cell_far (p:=⟨gb131,_,none⟩) NB148_131.out _).trans (hHeld.2.1)))))))),((cell_far (p:=⟨gb131,_,none⟩) NB148_131.out _).trans (((cell_far (p:=⟨gb131,_,none⟩) NB148_131.out _).trans (((cell_far (p:=⟨gb131,_,none⟩) NB148_131.out _).trans (((cell_far (p:=⟨gb131,_,none⟩) NB148_131.out _).trans (hHeld.2.2.1)))))))),((cell_far (p:=⟨gb131,_,none⟩) NB148_131.out _).trans (((cell_far (p:=⟨gb131,_,none⟩) NB148_131.out _).trans (((cell_far (p:=⟨gb131,_,none⟩) NB148_131.out _).trans (((cell_far (p:=⟨gb131,_,none⟩) NB148_131.out _).trans (hHeld.2.2.2.1)))))))),((cell_far (p:=⟨gb131,_,none⟩) (by first|exact Kd.own_blk (Kd.R_ne HO_149001.out BK131.out (by decide))|(rw [zO];exact Kd.own_blk (Kd.R_ne HO_149001.out BK131.out (by decide)))|(show (Addr.add _ _).block ≠ _;rw [zO];exact Kd.own_blk (Kd.R_ne HO_149001.out BK131.out (by decide)))|(dsimp only;exact Kd.own_blk (Kd.R_ne HO_149001.out BK131.out (by decide)))) _).trans (((cell_far (p:=⟨gb131,_,none⟩) (by first|exact Kd.own_blk (Kd.R_ne HO_149001.out BK131.out (by decide))|(rw [zO];exact Kd.own_blk (Kd.R_ne HO_149001.out BK131.out (by decide)))|(show (Addr.add _ _).block ≠ _;rw [zO];exact Kd.own_blk (Kd.R_ne HO_149001.out BK131.out (by decide)))|(dsimp only;exact Kd.own_blk (Kd.R_ne HO_149001.out BK131.out (by decide)))) _).trans (((cell_far (p:=⟨gb131,_,none⟩) (by first|exact Kd.own_blk (Kd.R_ne HO_149001.out BK131.out (by decide))|(rw [zO];exact Kd.own_blk (Kd.R_ne HO_149001.out BK131.out (by decide)))|(show (Addr.add _ _).block ≠ _;rw [zO];exact Kd.own_blk (Kd.R_ne HO_149001.out BK131.out (by decide)))|(dsimp only;exact Kd.own_blk (Kd.R_ne HO_149001.out BK131.out (by decide)))) _).trans (((cell_far (p:=⟨gb131,_,none⟩) (by first|exact Kd.own_blk (Kd.R_ne HO_149001.out BK131.out (by decide))|(rw [zO];exact Kd.own_blk (Kd.R_ne HO_149001.out BK131.out (by decide)))|(show (Addr.add _ _).block ≠ _;rw [zO];exact Kd.own_blk (Kd.R_ne HO_149001.out BK131.out (by decide)))|(dsimp only;exact Kd.own_blk (Kd.R_ne HO_149001.out BK131.out (by decide)))) _).trans (hHeld.2.2.2.2))))))))⟩ (fun hHeld=>?_)
              clear hK K;refine pure_ (i:=13) (N:=some 3) (v:=?_) (a':=?_) #[y',y',y',y',y',y',y',y',y',y',y',y',y',y'] rfl rfl (any_of HT_.out (by kernel_rfl)) (fun _ _ _ h=>h) (Or.inl ⟨by rfl,?_⟩) ?_ ?_
              rotate_left
              ·intro w'
               go_simp
               with_reducible rfl
              rotate_left
              ·simp only [Act.put,u0,u1,u2,i64_w,i32_w]
               rfl
              refine done_ (done_of HT_.out (by kernel_rfl)) ?_
              try go_wp2
              refine bodyPost_ret (results_ct rfl _ _ gb131 30 #[.slice Ao79 x149000_16.length co79,.slice (some ad160) x149001_16.length co78,.slice Ao32 y145.length co32,.slice Ao73 y157.length co73] (0,0) _ rfl (by (with_reducible repeat (first|refine zH ?_ _|refine zI ?_|refine zG ?_ _));refine blk_put (cs:=#[.slice Ao79 x149000_16.length co79,.slice (some ad160) x149001_16.length co78,.slice Ao32 y145.length co32,.slice none 0 0]) ?_ 3 _ rfl;(with_reducible repeat (first|refine zH ?_ _|refine zI ?_|refine zG ?_ _));refine blk_put (cs:=#[.slice Ao79 x149000_16.length co79,.slice (some ad160) x149001_16.length co78,.slice none 0 0,.slice none 0 0]) ?_ 2 _ rfl;(with_reducible repeat (first|refine zH ?_ _|refine zI ?_|refine zG ?_ _));refine blk_put (cs:=#[.slice Ao79 x149000_16.length co79,.slice none 0 0,.slice none 0 0,.slice none 0 0]) ?_ 1 _ rfl;(with_reducible repeat (first|refine zH ?_ _|refine zI ?_|refine zG ?_ _));refine blk_put (cs:=#[.slice none 0 0,.slice none 0 0,.slice none 0 0,.slice none 0 0]) ?_ 0 _ rfl;exact BK131.out) Try.underlying30 rfl (by kernel_rfl)) rfl ?_
              exact ⟨_,_,_,_,by first|rfl|(simp [errW_none,errW_some] <;> rfl)|(simp only [← hji12];first|rfl|(simp [errW_none,errW_some] <;> rfl))|(simp [*,errW_none,errW_some] <;> rfl),by exact zS (zX (p:=⟨gb131,3,none⟩) (zX (p:=⟨gb131,2,none⟩) (zX (p:=⟨gb131,1,none⟩) (zX (p:=⟨gb131,0,none⟩) (zBb HO_149000.out BK131.out (by decide)) (fun _ hk=>hk.2) (.slice Ao79 x149000_16.length co79)) (fun _ hk=>hk.2) (.slice (some ad160) x149001_16.length co78)) (fun _ hk=>hk.2) (.slice Ao32 y145.length co32)) (fun _ hk=>hk.2) (.slice Ao73 y157.length co73)) (fun _ hk=>⟨hk.1.1,hk.1.2⟩),by exact zS (zX (p:=⟨gb131,3,none⟩) (zX (p:=⟨gb131,2,none⟩) (zX (p:=⟨gb131,1,none⟩) (zX (p:=⟨gb131,0,none⟩) (zBb HO_149001.out BK131.out (by decide)) (fun _ hk=>hk.2) (.slice Ao79 x149000_16.length co79)) (fun _ hk=>hk.2) (.slice (some ad160) x149001_16.length co78)) (fun _ hk=>hk.2) (.slice Ao32 y145.length co32)) (fun _ hk=>hk.2) (.slice Ao73 y157.length co73)) (fun _ hk=>⟨hk.1.1,hk.1.2⟩),by exact zS (zX (p:=⟨gb131,3,none⟩) (zX (p:=⟨gb131,2,none⟩) (zX (p:=⟨gb131,1,none⟩) (zX (p:=⟨gb131,0,none⟩) (zBb HO_149002.out BK131.out (by decide)) (fun _ hk=>hk.2) (.slice Ao79 x149000_16.length co79)) (fun _ hk=>hk.2) (.slice (some ad160) x149001_16.length co78)) (fun _ hk=>hk.2) (.slice Ao32 y145.length co32)) (fun _ hk=>hk.2) (.slice Ao73 y157.length co73)) (fun _ hk=>hk.1),by (with_reducible repeat (first|apply zJb|apply zKb|apply zLb));exact Kd.N_mono (Kd.N_far (p:=⟨gb131,3,none⟩) (Kd.N_far (p:=⟨gb131,2,none⟩) (Kd.N_far (p:=⟨gb131,1,none⟩) (Kd.N_far (p:=⟨gb131,0,none⟩) (Kd.N_mono HO159.out (fun k_ hk=>(⟨hk,hk.2.2.2.2.2.1⟩ : _∧k_ ≠ gb131))) (fun _ hk=>hk.2) (.slice Ao79 x149000_16.length co79)) (fun _ hk=>hk.2) (.slice (some ad160) x149001_16.length co78)) (fun _ hk=>hk.2) (.slice Ao32 y145.length co32)) (fun _ hk=>hk.2) (.slice Ao73 y157.length co73)) (fun _ hk=>⟨hk.1.1,⟨hk.1.2.2.1,⟨hk.1.2.2.2.1,hk.1.2.2.2.2.1⟩⟩⟩),by repeat (first|(with_reducible first|exact HB.out|apply zA|apply zB|apply zC|refine zF ?_ GE131.out|refine zF ?_ GE148.out)|exact HB.out)⟩
             ·rw [if_neg c68] at H;have c68b0 : decide (0 ≤ (rd x149001_16 0)) = false:=decide_eq_false c68;clear c68;simp only [Option.some.injEq,Prod.mk.injEq] at H
              obtain ⟨rfl,rfl,rfl,rfl,rfl⟩:=H;obtain ⟨Ao85,co85,eo85⟩:=zAb HO_6.out;subst eo85
              try go_wp2_with (first|((with_reducible refine zM (N:=66) rfl ?_);(try (refine gate_guard (by rfl) ?_;dsimp only));refine Kd.N_lit (Kd.slice 4 Kd.bool) _ 23 ?hg (N':=66) ?hd (xs:=([x6_3] : List (List Bool))) (inner:=[.slice Ao85 x6_3.length co85]) (ok:=(fun k_=>(w.heap.size ≤ k_)∧some k_ ≠ (.slice (some ad139) t132.length co19 : Value).ownBlock∧some k_ ≠ (u149000 : Value).ownBlock∧some k_ ≠ (u149001 : Value).ownBlock∧some k_ ≠ (.slice Ao32 y145.length co32 : Value).ownBlock∧k_ ≠ gb131∧k_ ≠ gb148)) (okp:=(fun k_=>(w.heap.size ≤ k_)∧some k_ ≠ (.slice (some ad139) t132.length co19 : Value).ownBlock∧some k_ ≠ (u149000 : Value).ownBlock∧some k_ ≠ (u149001 : Value).ownBlock∧some k_ ≠ (.slice Ao32 y145.length co32 : Value).ownBlock∧k_ ≠ gb131∧k_ ≠ gb148)) ?hr ?hp (fun _ hk=>hk) ((show ∀ k_,wr.heap.size ≤ k_→(fun k_=>(w.heap.size ≤ k_)∧some k_ ≠ (.slice (some ad139) t132.length co19 : Value).ownBlock∧some k_ ≠ (u149000 : Value).ownBlock∧some k_ ≠ (u149001 : Value).ownBlock∧some k_ ≠ (.slice Ao32 y145.length co32 : Value).ownBlock∧k_ ≠ gb131∧k_ ≠ gb148) k_ from fun k_ hk=>⟨(Nat.le_trans (zJ (by with_reducible repeat first|exact HB.out|apply zA|apply zB|apply zC)) hk),Kd.fresh' (Kd.R_lt (by exact HO_4.out)) k_ hk,Kd.fresh' (Kd.R_lt (by exact HO_149000.out)) k_ hk,Kd.fresh' (Kd.R_lt (by exact HO_149001.out)) k_ hk,Kd.fresh' (Kd.R_lt (by exact HO_149002.out)) k_ hk,Kd.freshB (g:=gb131) (o:=.cells #[.slice none 0 0,.slice none 0 0,.slice none 0 0,.slice none 0 0] 30 (0,0)) (by exact BK131.out) k_ hk,Kd.freshB (g:=gb148) (o:=.cells #[u149000,u149001,.slice Ao32 y145.length co32,.slice none 0 0] 30 (0,0)) (by exact BK148.out) k_ hk⟩) _ (Nat.le_refl _)) (Below.refl _ _) (Nat.le_refl _) (by simp) ?_;(case hd=>rfl);(case hg=>rfl);(case hr=>first|(go_simp;done)|(go_simp;rfl));(case hp=>exact (Reps.one (show Kd.FK (Kd.slice 4 Kd.bool) _ _ x6_3 [.slice Ao85 x6_3.length co85] from (Kd.FK_slice_mk (zW (zS (ok':=(fun k_=>(w.heap.size ≤ k_)∧some k_ ≠ (.slice (some ad139) t132.length co19 : Value).ownBlock∧some k_ ≠ (u149000 : Value).ownBlock∧some k_ ≠ (u149001 : Value).ownBlock∧some k_ ≠ (.slice Ao32 y145.length co32 : Value).ownBlock∧k_ ≠ gb131∧k_ ≠ gb148)) (zBb (zBb (Kd.R_apart' (Kd.R_apart' (Kd.R_apart' (HO_6.out) (Kd.R_typed HO_4.out) (by decide)) (Kd.R_typed HO_149000.out) (by decide)) (Kd.R_typed HO_149001.out) (by decide)) BK131.out (by decide)) BK148.out (by decide)) (fun k_ hk=>⟨hk.1.1.1.1.1.1,⟨hk.1.1.1.1.2,⟨hk.1.1.1.2,⟨hk.1.1.2,⟨hk.1.1.1.1.1.2,⟨hk.1.2,hk.2⟩⟩⟩⟩⟩⟩))).2.1 (Kd.R_F (zS (ok':=(fun k_=>(w.heap.size ≤ k_)∧some k_ ≠ (.slice (some ad139) t132.length co19 : Value).ownBlock∧some k_ ≠ (u149000 : Value).ownBlock∧some k_ ≠ (u149001 : Value).ownBlock∧some k_ ≠ (.slice Ao32 y145.length co32 : Value).ownBlock∧k_ ≠ gb131∧k_ ≠ gb148)) (zBb (zBb (Kd.R_apart' (Kd.R_apart' (Kd.R_apart' (HO_6.out) (Kd.R_typed HO_4.out) (by decide)) (Kd.R_typed HO_149000.out) (by decide)) (Kd.R_typed HO_149001.out) (by decide)) BK131.out (by decide)) BK148.out (by decide)) (fun k_ hk=>⟨hk.1.1.1.1.1.1,⟨hk.1.1.1.1.2,⟨hk.1.1.1.2,⟨hk.1.1.2,⟨hk.1.1.1.1.1.2,⟨hk.1.2,hk.2⟩⟩⟩⟩⟩⟩))))) (Reps.none _ _)));intro v158 w86 ho87 hb hg_ hnew_;clear hg_ hnew_;(first|rw [← Ny157.out] at ho87|(simp only [Int.reduceToNat] at ho87;rw [← Ny157.out] at ho87));replace HO_4:=zm (zHb (by exact HO_4.out) hb);replace HO_149000:=zm (zHb (by exact HO_149000.out) hb);replace HO_149001:=zm (zHb (by exact HO_149001.out) hb);replace HO_149002:=zm (zHb (by exact HO_149002.out) hb);have HO159:=zm (Kd.N_lower ho87 (zJ (by with_reducible repeat first|exact HB.out|apply zA|apply zB|apply zC)));replace BK131:=zm (zL (by exact BK131.out) hb);replace BK148:=zm (zL (g:=gb148) (o:=.cells #[u149000,u149001,.slice Ao32 y145.length co32,.slice none 0 0] 30 (0,0)) (by exact BK148.out) hb);replace HB:=zm (zK (by with_reducible repeat first|exact HB.out|apply zA|apply zB|apply zC) hb);clear HO_6;clear hb ho87;obtain ⟨Ao88,co88,eo88⟩:=Kd.N_slice HO159.out;subst eo88;have hnb89:=NB148_131.out;have hnc89:=NB131_148.out;have hcz90_0 : w86.cell? ⟨gb148,0,none⟩ = some (u149000):=(zD BK148.out 0).trans rfl;have hcz90_1 : w86.cell? ⟨gb148,1,none⟩ = some (u149001):=(zD BK148.out 1).trans rfl;have hcz90_2 : w86.cell? ⟨gb148,2,none⟩ = some (.slice Ao32 y145.length co32):=(zD BK148.out 2).trans rfl;have hcz90_3 : w86.cell? ⟨gb148,3,none⟩ = some (.slice none 0 0):=(zD BK148.out 3).trans rfl;have hfz90_0:=zE BK148.out 0;have hfz90_1:=zE BK148.out 1;have hfz90_2:=zE BK148.out 2;have hfz90_3:=zE BK148.out 3))
              have n0_ : Aside0 (Kd.R Kd.string 9 (w86.setCell ⟨gb148,3,none⟩ (.slice Ao88 y157.length co88)) w.heap.size (fun k_=>(w.heap.size ≤ k_)) (.slice (some ad139) t132.length co19) t132):=⟨by exact zS (zX (p:=⟨gb148,3,none⟩) (zBb HO_4.out BK148.out (by decide)) (fun _ hk=>hk.2) (.slice Ao88 y157.length co88)) (fun _ hk=>hk.1)⟩
              have n1_ : Aside0 (Kd.R (Kd.int .i64) 3 (w86.setCell ⟨gb148,3,none⟩ (.slice Ao88 y157.length co88)) w.heap.size (fun k_=>(w.heap.size ≤ k_)∧some k_ ≠ (u149001 : Value).ownBlock) u149000 x149000_16):=⟨by exact zS (zX (p:=⟨gb148,3,none⟩) (zBb HO_149000.out BK148.out (by decide)) (fun _ hk=>hk.2) (.slice Ao88 y157.length co88)) (fun _ hk=>⟨hk.1.1,hk.1.2⟩)⟩
              have n2_ : Aside0 (Kd.R (Kd.int .i64) 3 (w86.setCell ⟨gb148,3,none⟩ (.slice Ao88 y157.length co88)) w.heap.size (fun k_=>(w.heap.size ≤ k_)∧some k_ ≠ (u149000 : Value).ownBlock) u149001 x149001_16):=⟨by exact zS (zX (p:=⟨gb148,3,none⟩) (zBb HO_149001.out BK148.out (by decide)) (fun _ hk=>hk.2) (.slice Ao88 y157.length co88)) (fun _ hk=>⟨hk.1.1,hk.1.2⟩)⟩
              have n3_ : Aside0 (Kd.R Kd.bool 4 (w86.setCell ⟨gb148,3,none⟩ (.slice Ao88 y157.length co88)) w.heap.size (fun k_=>(w.heap.size ≤ k_)) (.slice Ao32 y145.length co32) y145):=⟨by exact zS (zX (p:=⟨gb148,3,none⟩) (zBb HO_149002.out BK148.out (by decide)) (fun _ hk=>hk.2) (.slice Ao88 y157.length co88)) (fun _ hk=>hk.1.1)⟩
              have n4_ : Aside0 (Kd.N (Kd.slice 4 Kd.bool) 23 (w86.setCell ⟨gb148,3,none⟩ (.slice Ao88 y157.length co88)) w.heap.size (fun k_=>(w.heap.size ≤ k_)∧some k_ ≠ (.slice (some ad139) t132.length co19 : Value).ownBlock∧some k_ ≠ (u149000 : Value).ownBlock∧some k_ ≠ (u149001 : Value).ownBlock∧some k_ ≠ (.slice Ao32 y145.length co32 : Value).ownBlock∧k_ ≠ gb131∧k_ ≠ gb148) (.slice Ao88 y157.length co88) y157):=⟨by (with_reducible repeat (first|apply zJb|apply zKb|apply zLb));exact Kd.N_mono (Kd.N_far (p:=⟨gb148,3,none⟩) (Kd.N_mono HO159.out (fun k_ hk=>(⟨hk,hk.2.2.2.2.2.2⟩ : _∧k_ ≠ gb148))) (fun _ hk=>hk.2) (.slice Ao88 y157.length co88)) (fun _ hk=>⟨hk.1.1,⟨hk.1.2.1,⟨hk.1.2.2.1,⟨hk.1.2.2.2.1,⟨hk.1.2.2.2.2.1,⟨hk.1.2.2.2.2.2.1,hk.1.2.2.2.2.2.2⟩⟩⟩⟩⟩⟩)⟩
              have n5_ : Aside0 ((w86.setCell ⟨gb148,3,none⟩ (.slice Ao88 y157.length co88)).heap[gb131]? = some o4):=⟨by (with_reducible repeat (first|refine zH ?_ _|refine zI ?_|refine zG ?_ _));refine blk_far ?_ NB131_148.out _;exact BK131.out⟩
              have n6_ : Aside0 ((w86.setCell ⟨gb148,3,none⟩ (.slice Ao88 y157.length co88)).heap[gb148]? = some (.cells #[u149000,u149001,.slice Ao32 y145.length co32,.slice Ao88 y157.length co88] 30 (0,0))):=⟨by (with_reducible repeat (first|refine zH ?_ _|refine zI ?_|refine zG ?_ _));refine blk_put (cs:=#[u149000,u149001,.slice Ao32 y145.length co32,.slice none 0 0]) ?_ 3 _ rfl;exact BK148.out⟩
              have n7_ : Aside0 (Below w.heap.size w (w86.setCell ⟨gb148,3,none⟩ (.slice Ao88 y157.length co88))):=⟨by repeat (first|(with_reducible first|exact HB.out|apply zA|apply zB|apply zC|refine zF ?_ GE131.out|refine zF ?_ GE148.out)|exact HB.out)⟩
              (try clear HO_4);(try clear HO_149000);(try clear HO_149001);(try clear HO_149002);(try clear HO159);(try clear BK131);(try clear BK148);(try clear HB);generalize (w86.setCell ⟨gb148,3,none⟩ (.slice Ao88 y157.length co88)) = w91 at n0_ n1_ n2_ n3_ n4_ n5_ n6_ n7_ ⊢
              have HO_4:=n0_;have HO_149000:=n1_;have HO_149001:=n2_;have HO_149002:=n3_;have HO159:=n4_;have BK131:=n5_;have BK148:=n6_;have HB:=n7_;clear n0_ n1_ n2_ n3_ n4_ n5_ n6_ n7_;replace HO_4:=zm (zR HO_4.out);replace HO_149000:=zm (zR HO_149000.out);replace HO_149001:=zm (zR HO_149001.out);replace HO_149002:=zm (zR HO_149002.out);replace HO159:=zm (zLb HO159.out);replace BK131:=zm (zI BK131.out);replace BK148:=zm (zI BK148.out);replace HB:=zm (zC HB.out);obtain ⟨Ao93,co93,eo93⟩:=zAb HO_149001.out;(first|subst eo93|(injection eo93 with f1_ f2_ f3_;have f4_:=f1_.symm;have f5_:=f3_.symm;clear f1_ f2_ f3_;subst f4_;subst f5_))
              have p160 : 0 ≤ (0 : Int):=(by omega)
              have q160 : 0 < (x149001_16.length : Int):=of_decide_eq_true (by first|(with_reducible assumption)|assumption)
              obtain ⟨ad160,e160,hx160_0⟩:=Kd.at_int (zW HO_149001.out).2.2 0 p160 q160;cases e160;have qi160 : (0 < x149001_16.length) = True:=eq_true (by omega)
              (try rw [show ((0 : Int)).toNat = 0 from rfl] at hx160_0)
              (try rw [Addr.add_zero'] at hx160_0);replace p160:=eq_true p160;replace q160:=eq_true q160;obtain ⟨Ao94,co94,eo94⟩:=zAb HO_149000.out;(first|subst eo94|(injection eo94 with f1_ f2_ f3_;have f4_:=f1_.symm;have f5_:=f3_.symm;clear f1_ f2_ f3_;subst f4_;subst f5_))
              refine start_ (n:=14) (S:=fun w'=>w'.cell? ⟨gb148,0,none⟩ = some (.slice Ao94 x149000_16.length co94)∧w'.cell? ⟨gb148,1,none⟩ = some (.slice (some ad160) x149001_16.length co93)∧w'.cell? ⟨gb148,2,none⟩ = some (.slice Ao32 y145.length co32)∧w'.cell? ⟨gb148,3,none⟩ = some (.slice Ao88 y157.length co88)∧w'.cell? ad160 = some (.int .i64 (rd x149001_16 0))) (ds:=[]) #[n',n',n',n',n',n',n',n',n',n',n',n',n',n'] (by kernel_rfl) rfl rfl ⟨(zD BK148.out 0).trans rfl,(zD BK148.out 1).trans rfl,(zD BK148.out 2).trans rfl,(zD BK148.out 3).trans rfl,hx160_0⟩ (fun hHeld=>?_);refine with_tabW spec_l4signal.tab15 spec_l4signal.bits15 (fun HT_ HW_=>?_)
              generalize w91.drew = w92 at HO_4 HO_149000 HO_149001 HO_149002 HO159 BK131 BK148 HB hx160_0 hHeld ⊢
              refine pure_ (i:=1) (N:=some 69) (v:=?_) (a':=?_) #[n',y',n',n',n',n',n',n',n',n',n',n',n',n'] rfl rfl (any_of HT_.out (by kernel_rfl)) (fun _ _ _ h=>h) (Or.inl ⟨by rfl,?_⟩) ?_ ?_
              rotate_left
              ·intro w'
               go_simp
               with_reducible rfl
              rotate_left
              ·simp only [Act.put,u0,u1,u2,i64_w,i32_w]
               rfl
              refine take_ (i:=0) (N:=some 68) (v:=?_) (a':=?_) #[y',y',n',n',n',n',n',n',n',n',n',n',n',n'] rfl rfl (take_ofW HT_.out HW_.out (by kernel_rfl)) (fun _ _ _ h=>h) (Or.inl ⟨by rfl,?_⟩) hHeld ?_ ?_
              rotate_left
              ·rintro w' ⟨s0,s1,s2,s3,s4⟩
               go_simp
               with_reducible rfl
              rotate_left
              ·simp only [Act.put,u0,u1,u2,i64_w,i32_w]
               rfl
              refine take_ (i:=2) (N:=some 70) (v:=?_) (a':=?_) #[y',y',y',n',n',n',n',n',n',n',n',n',n',n'] rfl rfl (take_ofW HT_.out HW_.out (by kernel_rfl)) (fun _ _ _ h=>h) (Or.inl ⟨by rfl,?_⟩) hHeld ?_ ?_
              rotate_left
              ·rintro w' ⟨s0,s1,s2,s3,s4⟩
               go_simp
               with_reducible rfl
              rotate_left
              ·simp only [Act.put,u0,u1,u2,i64_w,i32_w]
               rfl
              refine pure_ (i:=3) (N:=some 71) (v:=?_) (a':=?_) #[y',y',y',y',n',n',n',n',n',n',n',n',n',n'] rfl rfl (any_of HT_.out (by kernel_rfl)) (fun _ _ _ h=>h) (Or.inl ⟨by rfl,?_⟩) ?_ ?_
              rotate_left
              ·intro w'
               go_simp
               with_reducible rfl
              rotate_left
              ·simp only [Act.put,u0,u1,u2,i64_w,i32_w]
               rfl
              refine take_ (i:=4) (N:=some 72) (v:=?_) (a':=?_) #[y',y',y',y',y',n',n',n',n',n',n',n',n',n'] rfl rfl (take_ofW HT_.out HW_.out (by kernel_rfl)) (fun _ _ _ h=>h) (Or.inl ⟨by rfl,?_⟩) hHeld ?_ ?_
              rotate_left
              ·rintro w' ⟨s0,s1,s2,s3,s4⟩
               go_simp
               with_reducible rfl
              rotate_left
              ·simp only [Act.put,u0,u1,u2,i64_w,i32_w]
               rfl
              refine pure_ (i:=5) (N:=some 73) (v:=?_) (a':=?_) #[y',y',y',y',y',y',n',n',n',n',n',n',n',n'] rfl rfl (any_of HT_.out (by kernel_rfl)) (fun _ _ _ h=>h) (Or.inl ⟨by rfl,?_⟩) ?_ ?_
              rotate_left
              ·intro w'
               go_simp
               with_reducible rfl
              rotate_left
              ·simp only [Act.put,u0,u1,u2,i64_w,i32_w]
               rfl
              refine pure_ (i:=6) (N:=some 74) (v:=?_) (a':=?_) #[y',y',y',y',y',y',y',n',n',n',n',n',n',n'] rfl rfl (any_of HT_.out (by kernel_rfl)) (fun _ _ _ h=>h) (Or.inl ⟨by rfl,?_⟩) ?_ ?_
              rotate_left
              ·intro w'
               go_simp
               with_reducible rfl
              rotate_left
              ·simp only [Act.put,u0,u1,u2,i64_w,i32_w]
               rfl
              refine pure_ (i:=7) (N:=some 75) (v:=undef) (a':=?_) #[y',y',y',y',y',y',y',y',n',n',n',n',n',n'] rfl rfl (any_of HT_.out (by kernel_rfl)) (fun _ _ _ h=>h) (Or.inr ⟨by rfl,rfl⟩) ?_ ?_
              rotate_left
              ·simp only [Act.put,u0,u1,u2,i64_w,i32_w]
               rfl
              refine pure_ (i:=8) (N:=some 76) (v:=undef) (a':=?_) #[y',y',y',y',y',y',y',y',y',n',n',n',n',n'] rfl rfl (any_of HT_.out (by kernel_rfl)) (fun _ _ _ h=>h) (Or.inr ⟨by rfl,rfl⟩) ?_ ?_
              rotate_left
              ·simp only [Act.put,u0,u1,u2,i64_w,i32_w]
               rfl
              refine pure_ (i:=9) (N:=some 77) (v:=undef) (a':=?_) #[y',y',y',y',y',y',y',y',y',y',n',n',n',n'] rfl rfl (any_of HT_.out (by kernel_rfl)) (fun _ _ _ h=>h) (Or.inr ⟨by rfl,rfl⟩) ?_ ?_
              rotate_left
              ·simp only [Act.put,u0,u1,u2,i64_w,i32_w]
               rfl
              refine pure_ (i:=10) (N:=some 78) (v:=undef) (a':=?_) #[y',y',y',y',y',y',y',y',y',y',y',n',n',n'] rfl rfl (any_of HT_.out (by kernel_rfl)) (fun _ _ _ h=>h) (Or.inr ⟨by rfl,rfl⟩) ?_ ?_
              rotate_left
              ·simp only [Act.put,u0,u1,u2,i64_w,i32_w]
               rfl
              refine pure_ (i:=11) (N:=some 79) (v:=?_) (a':=?_) #[y',y',y',y',y',y',y',y',y',y',y',y',n',n'] rfl rfl (any_of HT_.out (by kernel_rfl)) (fun _ _ _ h=>h) (Or.inl ⟨by rfl,?_⟩) ?_ ?_
              rotate_left
              ·intro w'
               go_simp
               with_reducible rfl
              rotate_left
              ·simp only [Act.put,u0,u1,u2,i64_w,i32_w]
               rfl
              refine one_ (i:=12) (N:=none) #[y',y',y',y',y',y',y',y',y',y',y',y',y',n'] rfl rfl (one_of HT_.out (by kernel_rfl)) (by decide) (fun K hK=>?_)
              have hs95 : w92.cell? ⟨gb131,0,none⟩ = some (.slice none 0 0):=(zD BK131.out 0).trans rfl;have hfs95:=zE BK131.out 0;have hns95_1:=NB148_131.out;have hms95_1:=NB131_148.out;have hs96 : w92.cell? ⟨gb131,1,none⟩ = some (.slice none 0 0):=(zD BK131.out 1).trans rfl;have hfs96:=zE BK131.out 1;have hns96_1:=NB148_131.out;have hms96_1:=NB131_148.out;have hs97 : w92.cell? ⟨gb131,2,none⟩ = some (.slice none 0 0):=(zD BK131.out 2).trans rfl;have hfs97:=zE BK131.out 2;have hns97_1:=NB148_131.out;have hms97_1:=NB131_148.out;have hs98 : w92.cell? ⟨gb131,3,none⟩ = some (.slice none 0 0):=(zD BK131.out 3).trans rfl;have hfs98:=zE BK131.out 3;have hns98_1:=NB148_131.out;have hms98_1:=NB131_148.out;refine skip_ (w1:=?_) (by rfl) rfl ?_ ?_
              rotate_left
              ·go_simp
               rfl
              refine hK.out _ _ ⟨((cell_far (p:=⟨gb131,_,none⟩) NB148_131.out _).trans (((cell_far (p:=⟨gb131,_,none⟩) NB148_131.out _).trans (((cell_far (p:=⟨gb131,_,none⟩) NB148_131.out _).trans (((cell_far (p:=⟨gb131,_,none⟩) NB148_131.out _).trans (hHeld.1)))))))),((cell_far (p:=⟨gb131,_,none⟩) NB148_131.out _).trans (((cell_far (p:=⟨gb131,_,none⟩) NB148_131.out _).trans (((cell_far (p:=⟨gb131,_,none⟩) NB148_131.out _).trans (((cell_far (p:=⟨gb131,_,none⟩) NB148_131.out _).trans (hHeld.2.1)))))))),((cell_far (p:=⟨gb131,_,none⟩) NB148_131.out _).trans (((cell_far (p:=⟨gb131,_,none⟩) NB148_131.out _).trans (((cell_far (p:=⟨gb131,_,none⟩) NB148_131.out _).trans (((cell_far (p:=⟨gb131,_,none⟩) NB148_131.out _).trans (hHeld.2.2.1)))))))),((cell_far (p:=⟨gb131,_,none⟩) NB148_131.out _).trans (((cell_far (p:=⟨gb131,_,none⟩) NB148_131.out _).trans (((cell_far (p:=⟨gb131,_,none⟩) NB148_131.out _).trans (((cell_far (p:=⟨gb131,_,none⟩) NB148_131.out _).trans (hHeld.2.2.2.1)))))))),((cell_far (p:=⟨gb131,_,none⟩) (by first|exact Kd.own_blk (Kd.R_ne HO_149001.out BK131.out (by decide))|(rw [zO];exact Kd.own_blk (Kd.R_ne HO_149001.out BK131.out (by decide)))|(show (Addr.add _ _).block ≠ _;rw [zO];exact Kd.own_blk (Kd.R_ne HO_149001.out BK131.out (by decide)))|(dsimp only;exact Kd.own_blk (Kd.R_ne HO_149001.out BK131.out (by decide)))) _).trans (((cell_far (p:=⟨gb131,_,none⟩) (by first|exact Kd.own_blk (Kd.R_ne HO_149001.out BK131.out (by decide))|(rw [zO];exact Kd.own_blk (Kd.R_ne HO_149001.out BK131.out (by decide)))|(show (Addr.add _ _).block ≠ _;rw [zO];exact Kd.own_blk (Kd.R_ne HO_149001.out BK131.out (by decide)))|(dsimp only;exact Kd.own_blk (Kd.R_ne HO_149001.out BK131.out (by decide)))) _).trans (((cell_far (p:=⟨gb131,_,none⟩) (by first|exact Kd.own_blk (Kd.R_ne HO_149001.out BK131.out (by decide))|(rw [zO];exact Kd.own_blk (Kd.R_ne HO_149001.out BK131.out (by decide)))|(show (Addr.add _ _).block ≠ _;rw [zO];exact Kd.own_blk (Kd.R_ne HO_149001.out BK131.out (by decide)))|(dsimp only;exact Kd.own_blk (Kd.R_ne HO_149001.out BK131.out (by decide)))) _).trans (((cell_far (p:=⟨gb131,_,none⟩) (by first|exact Kd.own_blk (Kd.R_ne HO_149001.out BK131.out (by decide))|(rw [zO];exact Kd.own_blk (Kd.R_ne HO_149001.out BK131.out (by decide)))|(show (Addr.add _ _).block ≠ _;rw [zO];exact Kd.own_blk (Kd.R_ne HO_149001.out BK131.out (by decide)))|(dsimp only;exact Kd.own_blk (Kd.R_ne HO_149001.out BK131.out (by decide)))) _).trans (hHeld.2.2.2.2))))))))⟩ (fun hHeld=>?_)
              clear hK K;refine pure_ (i:=13) (N:=some 3) (v:=?_) (a':=?_) #[y',y',y',y',y',y',y',y',y',y',y',y',y',y'] rfl rfl (any_of HT_.out (by kernel_rfl)) (fun _ _ _ h=>h) (Or.inl ⟨by rfl,?_⟩) ?_ ?_
              rotate_left
              ·intro w'
               go_simp
               with_reducible rfl
              rotate_left
              ·simp only [Act.put,u0,u1,u2,i64_w,i32_w]
               rfl
              refine done_ (done_of HT_.out (by kernel_rfl)) ?_
              try go_wp2
              refine bodyPost_ret (results_ct rfl _ _ gb131 30 #[.slice Ao94 x149000_16.length co94,.slice (some ad160) x149001_16.length co93,.slice Ao32 y145.length co32,.slice Ao88 y157.length co88] (0,0) _ rfl (by (with_reducible repeat (first|refine zH ?_ _|refine zI ?_|refine zG ?_ _));refine blk_put (cs:=#[.slice Ao94 x149000_16.length co94,.slice (some ad160) x149001_16.length co93,.slice Ao32 y145.length co32,.slice none 0 0]) ?_ 3 _ rfl;(with_reducible repeat (first|refine zH ?_ _|refine zI ?_|refine zG ?_ _));refine blk_put (cs:=#[.slice Ao94 x149000_16.length co94,.slice (some ad160) x149001_16.length co93,.slice none 0 0,.slice none 0 0]) ?_ 2 _ rfl;(with_reducible repeat (first|refine zH ?_ _|refine zI ?_|refine zG ?_ _));refine blk_put (cs:=#[.slice Ao94 x149000_16.length co94,.slice none 0 0,.slice none 0 0,.slice none 0 0]) ?_ 1 _ rfl;(with_reducible repeat (first|refine zH ?_ _|refine zI ?_|refine zG ?_ _));refine blk_put (cs:=#[.slice none 0 0,.slice none 0 0,.slice none 0 0,.slice none 0 0]) ?_ 0 _ rfl;exact BK131.out) Try.underlying30 rfl (by kernel_rfl)) rfl ?_
              exact ⟨_,_,_,_,by first|rfl|(simp [errW_none,errW_some] <;> rfl)|(simp only [← hji12];first|rfl|(simp [errW_none,errW_some] <;> rfl))|(simp [*,errW_none,errW_some] <;> rfl),by exact zS (zX (p:=⟨gb131,3,none⟩) (zX (p:=⟨gb131,2,none⟩) (zX (p:=⟨gb131,1,none⟩) (zX (p:=⟨gb131,0,none⟩) (zBb HO_149000.out BK131.out (by decide)) (fun _ hk=>hk.2) (.slice Ao94 x149000_16.length co94)) (fun _ hk=>hk.2) (.slice (some ad160) x149001_16.length co93)) (fun _ hk=>hk.2) (.slice Ao32 y145.length co32)) (fun _ hk=>hk.2) (.slice Ao88 y157.length co88)) (fun _ hk=>⟨hk.1.1,hk.1.2⟩),by exact zS (zX (p:=⟨gb131,3,none⟩) (zX (p:=⟨gb131,2,none⟩) (zX (p:=⟨gb131,1,none⟩) (zX (p:=⟨gb131,0,none⟩) (zBb HO_149001.out BK131.out (by decide)) (fun _ hk=>hk.2) (.slice Ao94 x149000_16.length co94)) (fun _ hk=>hk.2) (.slice (some ad160) x149001_16.length co93)) (fun _ hk=>hk.2) (.slice Ao32 y145.length co32)) (fun _ hk=>hk.2) (.slice Ao88 y157.length co88)) (fun _ hk=>⟨hk.1.1,hk.1.2⟩),by exact zS (zX (p:=⟨gb131,3,none⟩) (zX (p:=⟨gb131,2,none⟩) (zX (p:=⟨gb131,1,none⟩) (zX (p:=⟨gb131,0,none⟩) (zBb HO_149002.out BK131.out (by decide)) (fun _ hk=>hk.2) (.slice Ao94 x149000_16.length co94)) (fun _ hk=>hk.2) (.slice (some ad160) x149001_16.length co93)) (fun _ hk=>hk.2) (.slice Ao32 y145.length co32)) (fun _ hk=>hk.2) (.slice Ao88 y157.length co88)) (fun _ hk=>hk.1),by (with_reducible repeat (first|apply zJb|apply zKb|apply zLb));exact Kd.N_mono (Kd.N_far (p:=⟨gb131,3,none⟩) (Kd.N_far (p:=⟨gb131,2,none⟩) (Kd.N_far (p:=⟨gb131,1,none⟩) (Kd.N_far (p:=⟨gb131,0,none⟩) (Kd.N_mono HO159.out (fun k_ hk=>(⟨hk,hk.2.2.2.2.2.1⟩ : _∧k_ ≠ gb131))) (fun _ hk=>hk.2) (.slice Ao94 x149000_16.length co94)) (fun _ hk=>hk.2) (.slice (some ad160) x149001_16.length co93)) (fun _ hk=>hk.2) (.slice Ao32 y145.length co32)) (fun _ hk=>hk.2) (.slice Ao88 y157.length co88)) (fun _ hk=>⟨hk.1.1,⟨hk.1.2.2.1,⟨hk.1.2.2.2.1,hk.1.2.2.2.2.1⟩⟩⟩),by repeat (first|(with_reducible first|exact HB.out|apply zA|apply zB|apply zC|refine zF ?_ GE131.out|refine zF ?_ GE148.out)|exact HB.out)⟩
            ·rw [if_neg c67] at H;exact absurd H (by simp)
      ·rw [if_neg c16] at H;exact absurd H (by simp)
     ·rw [if_neg c14] at H;exact absurd H (by simp)
    ·rw [if_neg c13] at H;exact absurd H (by simp)

end Go.Proofs.Ytpdcghclcgbcfab.X
