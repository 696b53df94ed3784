-- written by a program of this session (after the kit's print), not trusted: Lean checks it
import Derived.Test.YtpdcghclcgbcfabUx0
namespace Go.Proofs.Ytpdcghclcgbcfab.U
open Go.RowKit Go.Proofs.YtpdcghclcgbcfabW.PrintWords Go.Proofs.YtpdcghclcgbcfabW.PrintLast Go.Proofs.YtpdcghclcgbcfabW.PrintMore
open Go.Proofs.YtpdcghclcgbcfabW.PrintWords renaming below_alloc → zA, below_drew1 → zC, below_set → zF, below_step → zK, blk_cell → zD, box_event → zN, gate_dst → zM, pw_below_drewN → zB
open Go.Proofs.YtpdcghclcgbcfabW.PrintWords.Kd renaming R_alloc → zP, R_below → zHb, R_drew → zR, R_drewN → zQ, R_mono → zS, R_reads' → zW, R_slice → zAb, S_alloc → zDb, S_drew → zFb, S_drewN → zEb
open Go.Proofs.YtpdcghclcgbcfabW.PrintWords.Aside0 renaming mk → zm
attribute [local go_sem] max2_int min2_int max_two min_two max_three min_three max_four min_four   -- for this text's walks alone
set_option linter.unusedVariables false
set_option linter.unusedSimpArgs false

/-! ### laws_markIntS: function 39 -/
def laws_markIntS.l0 : Nat→List Int→Int→Int→Option (Int × List Int)
 | 0,_,_,_=>none
 | k + 1,x0,x1,x5=>if x5 < (x0.length : Int) then (if 0 ≤ x5 then (laws_markIntS.l0 k (x0.set (x5 : Int).toNat x1) (wrap64 (x1 + 1)) (wrap64 (x5 + 1))) else (none)) else (some (x1,x0))
def laws_markIntS.f (k : Nat) (l0 : List Int) (a1 : Int) : Option (Int × List Int):=laws_markIntS.l0 k l0 a1 0
theorem laws_markIntS.mono_l : ∀ k,(∀ y0 y1 y2,LeO (laws_markIntS.l0 k y0 y1 y2) (laws_markIntS.l0 (k + 1) y0 y1 y2))
 | 0=>fun _ _ _ r h=>by simp [laws_markIntS.l0] at h
 | k + 1=>by
  have ih0:=laws_markIntS.mono_l k
  ·intro y0 y1 y2
   unfold laws_markIntS.l0
   repeat' first
   | (with_reducible exact ih0 _ _ _)
   | (with_reducible exact LeO.refl _)
   | (with_reducible exact LeO.none _)
   | (with_reducible refine LeO.ite ?_ ?_)
   | (with_reducible refine LeO.bind ?_ (fun _=>?_))
   | exact ih0 _ _ _
   | exact LeO.none _
   | refine LeO.ite ?_ ?_
   | refine LeO.bind ?_ (fun _=>?_)
theorem laws_markIntS.mono : ∀ a0 a1 k,LeO (laws_markIntS.f k a0 a1) (laws_markIntS.f (k + 1) a0 a1):=by
 intro a0 a1 k
 have ih0:=laws_markIntS.mono_l k;unfold laws_markIntS.f
 repeat' first
   | (with_reducible exact ih0 _ _ _)
   | (with_reducible exact LeO.refl _)
   | (with_reducible exact LeO.none _)
   | (with_reducible refine LeO.ite ?_ ?_)
   | (with_reducible refine LeO.bind ?_ (fun _=>?_))
   | exact ih0 _ _ _
   | exact LeO.none _
   | refine LeO.ite ?_ ?_
   | refine LeO.bind ?_ (fun _=>?_)
set_option maxHeartbeats 8000000 in
set_option maxRecDepth 100000 in
theorem laws_markIntS.calls (k : Nat) (P0_ : Nat→Prop) (u9000_ : Value) (l0 : List Int) (a1 : Int) (r1 : Int) (r2 : List Int) (w0 w : World) (hB : Below w0.heap.size w0 w) (ho0 : Kd.R (Kd.int .i64) 3 w w0.heap.size P0_ u9000_ l0) (h : laws_markIntS.f k l0 a1 = some (r1,r2)) :
  Calls Try.prog 39 #[u9000_,.int .i64 a1] w fun e w'=>e = .returned (.int .i64 r1)∧Kd.R (Kd.int .i64) 3 w' w0.heap.size (fun k_=>(P0_ k_ ∨ w.heap.size ≤ k_)) u9000_ r2∧Below w0.heap.size w0 w'∧Kept w w' (fun k_=>P0_ k_):=by
 have HO0:=zm (show Kd.R (Kd.int .i64) 3 w w0.heap.size (fun k_=>(P0_ k_ ∨ w.heap.size ≤ k_)) u9000_ l0 from zS ho0 (fun k_ hk=>(.inl hk)))
 have HK:=zm (Kept.refl w (fun k_=>P0_ k_))
 have HW0:=zm hB.size;have HB:=zm hB;clear hB;have H : (laws_markIntS.l0 k l0 a1 0) = some (r1,r2):=h;clear h;have H':=zm H;clear H;go_enter Try.func39,Try.ntmps39
 go_wp2;go_loopg [1,5] k (fun kq v1 v5 w'=>∃ (x0_1 : List Int) (x1_1 : Int) (x5_1 : Int),v1 = .int .i64 x1_1∧v5 = .int .i64 x5_1∧Aside0 (laws_markIntS.l0 kq x0_1 x1_1 x5_1 = some (r1,r2))∧Aside0 (kq ≤ k)∧Aside0 (Kd.R (Kd.int .i64) 3 w' w0.heap.size (fun k_=>(P0_ k_ ∨ w.heap.size ≤ k_)) u9000_ x0_1)∧Aside0 (Kept w w' (fun k_=>P0_ k_))∧Aside0 (Below w0.heap.size w0 w'))
 case atStart=>exact ⟨(l0),(a1),(0),(by first|rfl|(simp;done)|(simp [*];done)),(by first|rfl|(simp;done)|(simp [*];done)),H',⟨Nat.le_refl _⟩,⟨by (with_reducible repeat (first|apply zP|apply zQ|apply zR));exact HO0.out⟩,⟨by repeat (first|(with_reducible first|exact HK.out|apply Kept.alloc|apply Kept.drewN|apply Kept.drew)|exact HK.out)⟩,⟨by repeat (first|(with_reducible first|exact HB.out|apply zA|apply zB|apply zC)|exact HB.out)⟩⟩
 case round =>
  clear H';(try clear p2);obtain ⟨x0_1,x1_1,x5_1,rfl,rfl,HA,HK1,HO_0,HK,HB⟩:=hrel;cases gk with
  | zero=>exact absurd HA.out (by simp [laws_markIntS.l0])
  | succ k1 =>
   have H:=HA.out;clear HA;simp only [laws_markIntS.l0] at H
   by_cases c3 : x5_1 < (x0_1.length : Int)
   ·rw [if_pos c3] at H;have c3b0 : decide (x5_1 < (x0_1.length : Int)) = true:=decide_eq_true c3;clear c3;by_cases c4 : 0 ≤ x5_1
    ·rw [if_pos c4] at H;have c4b0 : decide (0 ≤ x5_1) = true:=decide_eq_true c4;clear c4;obtain ⟨y378,hy378⟩ : ∃ y_ : List Int,y_ = (x0_1.set (x5_1 : Int).toNat x1_1):=⟨_,rfl⟩;replace H : (laws_markIntS.l0 k1 y378 (wrap64 (x1_1 + 1)) (wrap64 (x5_1 + 1))) = some (r1,r2):=by first|(rw [hy378];with_reducible exact H)|(have H2_:=(Option.bind_some _ _).symm.trans H;rw [hy378];with_reducible exact H2_)|(have H2_:=(Option.bind_some _ _).symm.trans H;with_reducible exact H2_)|with_reducible exact H|(rw [hy378];exact H)|exact H
     have Ny378:=zm hy378;clear hy378;have H':=zm H;clear H;obtain ⟨Ao6,co6,eo6⟩:=zAb HO_0.out;subst eo6
     have p5 : 0 ≤ (x5_1 : Int):=of_decide_eq_true (by first|(with_reducible assumption)|assumption)
     have q5 : (x5_1 : Int) < ((x0_1.length : Int) : Int):=of_decide_eq_true (by first|(with_reducible assumption)|assumption)
     obtain ⟨go5,co5,eo5,gb5,gl5,cl5,HG5⟩:=Kd.R_form HO_0.out (by omega)
     (first|cases eo5|(injection eo5 with ea_ en_ ec_;(first|subst ea_|(injection ea_ with ea_;subst ea_));subst ec_;clear en_))
     have GB5:=zm gb5;have GG5:=zm HG5;clear gb5 gl5 HG5;have HMgo5:=zm (show (P0_ go5 ∨ w.heap.size ≤ go5) from (HO_0.out.1 _ rfl));obtain ⟨hx5_0,hf5_0⟩:=Kd.R_celln 0 HO_0.out (x5_1 : Int) p5 q5;replace p5:=eq_true p5;replace q5:=eq_true q5;have HP7:=Kd.R_putg HO_0.out (x5_1 : Int) x1_1;go_wp2_with (first|((with_reducible refine gate_store (t:=3) (p:=15) rfl ?_);refine store_event (t:=3) (p:=15) (v:=?vo_w8) (w1:=(wr.setCell ⟨go5,(x5_1 : Int).toNat,none⟩ (.int .i64 x1_1))) ?hg ?ho ?hn ?hr ?_;(case ho=>rfl);(case hg=>rfl);(case hn=>rfl);(case hr=>first|(go_simp;done)|(go_simp;rfl));intro w8 hw;have hg : wr.grownBy w8 (some go5):=(by rw [hw];exact HP7.2);have hp_ : Kd.R (Kd.int .i64) 3 w8 w0.heap.size (fun k_=>(P0_ k_ ∨ w.heap.size ≤ k_)) (.slice (some ⟨go5,0,none⟩) x0_1.length co6) y378:=(by rw [hw,Ny378.out];exact HP7.1);clear HP7;have n0_:=zm (hp_);have n1_:=zm ((by rw [hw];exact zF (HB.out) GB5.out : Below w0.heap.size w0 w8));have n2_:=zm (Kept.of_grown (S:=(fun k_=>P0_ k_)) hg (by repeat (first|(with_reducible first|exact HK.out|apply Kept.alloc|apply Kept.drewN|apply Kept.drew)|exact HK.out)) (fun k_ e_=>(HO_0.out.1 k_ e_)));clear HO_0;clear HB;clear HK;have HO_0:=n0_;have HB:=n1_;have HK:=n2_;clear n0_ n1_ n2_;clear hg hw hp_))
     go_roundg k1
     case measure=>have:=HK1.out;omega
     case rel=>exact ⟨(y378),(wrap64 (x1_1 + 1)),(wrap64 (x5_1 + 1)),(by first|rfl|(simp;done)|(simp [*];done)),(by first|rfl|(simp;done)|(simp [*];done)),H',⟨by have:=HK1.out;omega⟩,⟨by (with_reducible repeat (first|apply zP|apply zQ|apply zR));exact HO_0.out⟩,⟨by repeat (first|(with_reducible first|exact HK.out|apply Kept.alloc|apply Kept.drewN|apply Kept.drew)|exact HK.out)⟩,⟨by repeat (first|(with_reducible first|exact HB.out|apply zA|apply zB|apply zC)|exact HB.out)⟩⟩
    ·rw [if_neg c4] at H;exact absurd H (by simp)
   ·rw [if_neg c3] at H;have c3b0 : decide (x5_1 < (x0_1.length : Int)) = false:=decide_eq_false c3;clear c3;simp only [Option.some.injEq,Prod.mk.injEq] at H
    obtain ⟨rfl,rfl⟩:=H;obtain ⟨Ao9,co9,eo9⟩:=zAb HO_0.out;subst eo9
    go_wp2;go_ret
    exact ⟨by first|rfl|(simp [errW_none,errW_some] <;> rfl)|(simp [*,errW_none,errW_some] <;> rfl),by (with_reducible repeat (first|apply zP|apply zQ|apply zR));exact HO_0.out,by repeat (first|(with_reducible first|exact HB.out|apply zA|apply zB|apply zC)|exact HB.out),by repeat (first|(with_reducible first|exact HK.out|apply Kept.alloc|apply Kept.drewN|apply Kept.drew)|exact HK.out)⟩

/-! ### laws_markBoolS: function 40 -/
def laws_markBoolS.l0 : Nat→List Bool→Int→Int→Option (Int × List Bool)
 | 0,_,_,_=>none
 | k + 1,x0,x1,x5=>if x5 < (x0.length : Int) then (if 0 ≤ x5 then (laws_markBoolS.l0 k (x0.set (x5 : Int).toNat ((Int.tmod x1 3) == 0)) (wrap64 (x1 + 1)) (wrap64 (x5 + 1))) else (none)) else (some (x1,x0))
def laws_markBoolS.f (k : Nat) (l0 : List Bool) (a1 : Int) : Option (Int × List Bool):=laws_markBoolS.l0 k l0 a1 0
theorem laws_markBoolS.mono_l : ∀ k,(∀ y0 y1 y2,LeO (laws_markBoolS.l0 k y0 y1 y2) (laws_markBoolS.l0 (k + 1) y0 y1 y2))
 | 0=>fun _ _ _ r h=>by simp [laws_markBoolS.l0] at h
 | k + 1=>by
  have ih0:=laws_markBoolS.mono_l k
  ·intro y0 y1 y2
   unfold laws_markBoolS.l0
   repeat' first
   | (with_reducible exact ih0 _ _ _)
   | (with_reducible exact LeO.refl _)
   | (with_reducible exact LeO.none _)
   | (with_reducible refine LeO.ite ?_ ?_)
   | (with_reducible refine LeO.bind ?_ (fun _=>?_))
   | exact ih0 _ _ _
   | exact LeO.none _
   | refine LeO.ite ?_ ?_
   | refine LeO.bind ?_ (fun _=>?_)
theorem laws_markBoolS.mono : ∀ a0 a1 k,LeO (laws_markBoolS.f k a0 a1) (laws_markBoolS.f (k + 1) a0 a1):=by
 intro a0 a1 k
 have ih0:=laws_markBoolS.mono_l k;unfold laws_markBoolS.f
 repeat' first
   | (with_reducible exact ih0 _ _ _)
   | (with_reducible exact LeO.refl _)
   | (with_reducible exact LeO.none _)
   | (with_reducible refine LeO.ite ?_ ?_)
   | (with_reducible refine LeO.bind ?_ (fun _=>?_))
   | exact ih0 _ _ _
   | exact LeO.none _
   | refine LeO.ite ?_ ?_
   | refine LeO.bind ?_ (fun _=>?_)
set_option maxHeartbeats 8000000 in
set_option maxRecDepth 100000 in
theorem laws_markBoolS.calls (k : Nat) (P0_ : Nat→Prop) (u9000_ : Value) (l0 : List Bool) (a1 : Int) (r1 : Int) (r2 : List Bool) (w0 w : World) (hB : Below w0.heap.size w0 w) (ho0 : Kd.R Kd.bool 4 w w0.heap.size P0_ u9000_ l0) (h : laws_markBoolS.f k l0 a1 = some (r1,r2)) :
  Calls Try.prog 40 #[u9000_,.int .i64 a1] w fun e w'=>e = .returned (.int .i64 r1)∧Kd.R Kd.bool 4 w' w0.heap.size (fun k_=>(P0_ k_ ∨ w.heap.size ≤ k_)) u9000_ r2∧Below w0.heap.size w0 w'∧Kept w w' (fun k_=>P0_ k_):=by
 have HO0:=zm (show Kd.R Kd.bool 4 w w0.heap.size (fun k_=>(P0_ k_ ∨ w.heap.size ≤ k_)) u9000_ l0 from zS ho0 (fun k_ hk=>(.inl hk)))
 have HK:=zm (Kept.refl w (fun k_=>P0_ k_))
 have HW0:=zm hB.size;have HB:=zm hB;clear hB;have H : (laws_markBoolS.l0 k l0 a1 0) = some (r1,r2):=h;clear h;have H':=zm H;clear H;go_enter Try.func40,Try.ntmps40
 go_wp2;go_loopg [1,5] k (fun kq v1 v5 w'=>∃ (x0_1 : List Bool) (x1_1 : Int) (x5_1 : Int),v1 = .int .i64 x1_1∧v5 = .int .i64 x5_1∧Aside0 (laws_markBoolS.l0 kq x0_1 x1_1 x5_1 = some (r1,r2))∧Aside0 (kq ≤ k)∧Aside0 (Kd.R Kd.bool 4 w' w0.heap.size (fun k_=>(P0_ k_ ∨ w.heap.size ≤ k_)) u9000_ x0_1)∧Aside0 (Kept w w' (fun k_=>P0_ k_))∧Aside0 (Below w0.heap.size w0 w'))
 case atStart=>exact ⟨(l0),(a1),(0),(by first|rfl|(simp;done)|(simp [*];done)),(by first|rfl|(simp;done)|(simp [*];done)),H',⟨Nat.le_refl _⟩,⟨by (with_reducible repeat (first|apply zP|apply zQ|apply zR));exact HO0.out⟩,⟨by repeat (first|(with_reducible first|exact HK.out|apply Kept.alloc|apply Kept.drewN|apply Kept.drew)|exact HK.out)⟩,⟨by repeat (first|(with_reducible first|exact HB.out|apply zA|apply zB|apply zC)|exact HB.out)⟩⟩
 case round =>
  clear H';(try clear p2);obtain ⟨x0_1,x1_1,x5_1,rfl,rfl,HA,HK1,HO_0,HK,HB⟩:=hrel;cases gk with
  | zero=>exact absurd HA.out (by simp [laws_markBoolS.l0])
  | succ k1 =>
   have H:=HA.out;clear HA;simp only [laws_markBoolS.l0] at H
   by_cases c3 : x5_1 < (x0_1.length : Int)
   ·rw [if_pos c3] at H;have c3b0 : decide (x5_1 < (x0_1.length : Int)) = true:=decide_eq_true c3;clear c3;by_cases c4 : 0 ≤ x5_1
    ·rw [if_pos c4] at H;have c4b0 : decide (0 ≤ x5_1) = true:=decide_eq_true c4;clear c4;obtain ⟨y379,hy379⟩ : ∃ y_ : List Bool,y_ = (x0_1.set (x5_1 : Int).toNat ((Int.tmod x1_1 3) == 0)):=⟨_,rfl⟩;replace H : (laws_markBoolS.l0 k1 y379 (wrap64 (x1_1 + 1)) (wrap64 (x5_1 + 1))) = some (r1,r2):=by first|(rw [hy379];with_reducible exact H)|(have H2_:=(Option.bind_some _ _).symm.trans H;rw [hy379];with_reducible exact H2_)|(have H2_:=(Option.bind_some _ _).symm.trans H;with_reducible exact H2_)|with_reducible exact H|(rw [hy379];exact H)|exact H
     have Ny379:=zm hy379;clear hy379;have H':=zm H;clear H;obtain ⟨Ao6,co6,eo6⟩:=zAb HO_0.out;subst eo6
     have p5 : 0 ≤ (x5_1 : Int):=of_decide_eq_true (by first|(with_reducible assumption)|assumption)
     have q5 : (x5_1 : Int) < ((x0_1.length : Int) : Int):=of_decide_eq_true (by first|(with_reducible assumption)|assumption)
     obtain ⟨go5,co5,eo5,gb5,gl5,cl5,HG5⟩:=Kd.R_form HO_0.out (by omega)
     (first|cases eo5|(injection eo5 with ea_ en_ ec_;(first|subst ea_|(injection ea_ with ea_;subst ea_));subst ec_;clear en_))
     have GB5:=zm gb5;have GG5:=zm HG5;clear gb5 gl5 HG5;have HMgo5:=zm (show (P0_ go5 ∨ w.heap.size ≤ go5) from (HO_0.out.1 _ rfl));obtain ⟨hx5_0,hf5_0⟩:=Kd.R_celln false HO_0.out (x5_1 : Int) p5 q5;replace p5:=eq_true p5;replace q5:=eq_true q5;have HP7:=Kd.R_putg HO_0.out (x5_1 : Int) ((Int.tmod x1_1 3) == 0);go_wp2_with (first|((with_reducible refine gate_store (t:=4) (p:=17) rfl ?_);refine store_event (t:=4) (p:=17) (v:=?vo_w8) (w1:=(wr.setCell ⟨go5,(x5_1 : Int).toNat,none⟩ (.bool ((Int.tmod x1_1 3) == 0)))) ?hg ?ho ?hn ?hr ?_;(case ho=>rfl);(case hg=>rfl);(case hn=>rfl);(case hr=>first|(go_simp;done)|(go_simp;rfl));intro w8 hw;have hg : wr.grownBy w8 (some go5):=(by rw [hw];exact HP7.2);have hp_ : Kd.R Kd.bool 4 w8 w0.heap.size (fun k_=>(P0_ k_ ∨ w.heap.size ≤ k_)) (.slice (some ⟨go5,0,none⟩) x0_1.length co6) y379:=(by rw [hw,Ny379.out];exact HP7.1);clear HP7;have n0_:=zm (hp_);have n1_:=zm ((by rw [hw];exact zF (HB.out) GB5.out : Below w0.heap.size w0 w8));have n2_:=zm (Kept.of_grown (S:=(fun k_=>P0_ k_)) hg (by repeat (first|(with_reducible first|exact HK.out|apply Kept.alloc|apply Kept.drewN|apply Kept.drew)|exact HK.out)) (fun k_ e_=>(HO_0.out.1 k_ e_)));clear HO_0;clear HB;clear HK;have HO_0:=n0_;have HB:=n1_;have HK:=n2_;clear n0_ n1_ n2_;clear hg hw hp_))
     go_roundg k1
     case measure=>have:=HK1.out;omega
     case rel=>exact ⟨(y379),(wrap64 (x1_1 + 1)),(wrap64 (x5_1 + 1)),(by first|rfl|(simp;done)|(simp [*];done)),(by first|rfl|(simp;done)|(simp [*];done)),H',⟨by have:=HK1.out;omega⟩,⟨by (with_reducible repeat (first|apply zP|apply zQ|apply zR));exact HO_0.out⟩,⟨by repeat (first|(with_reducible first|exact HK.out|apply Kept.alloc|apply Kept.drewN|apply Kept.drew)|exact HK.out)⟩,⟨by repeat (first|(with_reducible first|exact HB.out|apply zA|apply zB|apply zC)|exact HB.out)⟩⟩
    ·rw [if_neg c4] at H;exact absurd H (by simp)
   ·rw [if_neg c3] at H;have c3b0 : decide (x5_1 < (x0_1.length : Int)) = false:=decide_eq_false c3;clear c3;simp only [Option.some.injEq,Prod.mk.injEq] at H
    obtain ⟨rfl,rfl⟩:=H;obtain ⟨Ao9,co9,eo9⟩:=zAb HO_0.out;subst eo9
    go_wp2;go_ret
    exact ⟨by first|rfl|(simp [errW_none,errW_some] <;> rfl)|(simp [*,errW_none,errW_some] <;> rfl),by (with_reducible repeat (first|apply zP|apply zQ|apply zR));exact HO_0.out,by repeat (first|(with_reducible first|exact HB.out|apply zA|apply zB|apply zC)|exact HB.out),by repeat (first|(with_reducible first|exact HK.out|apply Kept.alloc|apply Kept.drewN|apply Kept.drew)|exact HK.out)⟩

/-! ### laws_markBoolSS: function 41 -/
def laws_markBoolSS.l0 : Nat→List (List Bool)→Int→Int→Option (Int)
 | 0,_,_,_=>none
 | k + 1,x0,x1,x5=>if x5 < (x0.length : Int) then (if 0 ≤ x5 then ((laws_markBoolS.f k (rd_L2 x0 x5) x1).bind fun b=>laws_markBoolSS.l0 k (x0.set x5.toNat b.2) b.1 (wrap64 (x5 + 1))) else (none)) else (some x1)
def laws_markBoolSS.f (k : Nat) (l0 : List (List Bool)) (a1 : Int) : Option (Int):=laws_markBoolSS.l0 k l0 a1 0
theorem laws_markBoolSS.mono_l : ∀ k,(∀ y0 y1 y2,LeO (laws_markBoolSS.l0 k y0 y1 y2) (laws_markBoolSS.l0 (k + 1) y0 y1 y2))
 | 0=>fun _ _ _ r h=>by simp [laws_markBoolSS.l0] at h
 | k + 1=>by
  have ih0:=laws_markBoolSS.mono_l k
  ·intro y0 y1 y2
   unfold laws_markBoolSS.l0
   repeat' first
   | (with_reducible exact ih0 _ _ _)
   | (with_reducible exact laws_markBoolS.mono _ _ _)
   | (with_reducible exact LeO.refl _)
   | (with_reducible exact LeO.none _)
   | (with_reducible refine LeO.ite ?_ ?_)
   | (with_reducible refine LeO.bind ?_ (fun _=>?_))
   | exact ih0 _ _ _
   | exact laws_markBoolS.mono _ _ _
   | exact LeO.none _
   | refine LeO.ite ?_ ?_
   | refine LeO.bind ?_ (fun _=>?_)
theorem laws_markBoolSS.mono : ∀ a0 a1 k,LeO (laws_markBoolSS.f k a0 a1) (laws_markBoolSS.f (k + 1) a0 a1):=by
 intro a0 a1 k
 have ih0:=laws_markBoolSS.mono_l k;unfold laws_markBoolSS.f
 repeat' first
   | (with_reducible exact ih0 _ _ _)
   | (with_reducible exact laws_markBoolS.mono _ _ _)
   | (with_reducible exact LeO.refl _)
   | (with_reducible exact LeO.none _)
   | (with_reducible refine LeO.ite ?_ ?_)
   | (with_reducible refine LeO.bind ?_ (fun _=>?_))
   | exact ih0 _ _ _
   | exact laws_markBoolS.mono _ _ _
   | exact LeO.none _
   | refine LeO.ite ?_ ?_
   | refine LeO.bind ?_ (fun _=>?_)
/-- A row of bools: its own block alone may be told. -/
theorem bool_ok {e : Nat} {w : World} {base : Nat} {ok ok' : Nat→Prop} {v : Value} {xs : List Bool} (h : Kd.bool.R e w base ok v xs) (h' : ∀ k,v.ownBlock = some k→ok' k) : Kd.bool.R e w base ok' v xs:=⟨h',h.2⟩
set_option maxHeartbeats 8000000 in
set_option maxRecDepth 100000 in
theorem laws_markBoolSS.calls (k : Nat) (P0_ : Nat→Prop) (u : Value) (l0 : List (List Bool)) (a1 : Int) (r : Int) (w0 w : World) (hB : Below w0.heap.size w0 w) (ho0 : Kd.S (Kd.slice 4 Kd.bool) 23 w w0.heap.size P0_ u l0) (h : laws_markBoolSS.f k l0 a1 = some r) :
  Calls Try.prog 41 #[u,.int .i64 a1] w fun e w'=>e = .returned (.int .i64 r)∧Below w0.heap.size w0 w'∧Kept w w' P0_:=by
 obtain ⟨A,c,rfl⟩:=Kd.S_slice ho0;have HS:=zm ho0;have HK:=zm (Kept.refl w P0_);have HB:=zm hB;clear hB ho0;have H':=zm (show laws_markBoolSS.l0 k l0 a1 0 = some r from h);clear h;go_enter Try.func41,Try.ntmps41
 go_wp2;go_loopg [1,5] k (fun kq v1 v5 w'=>∃ (x0 : List (List Bool)) (x1 x5 : Int),v1 = .int .i64 x1∧v5 = .int .i64 x5∧Aside0 (laws_markBoolSS.l0 kq x0 x1 x5 = some r)∧Aside0 (kq ≤ k)∧Aside0 (x0.length = l0.length)∧Aside0 (Kd.S (Kd.slice 4 Kd.bool) 23 w' w0.heap.size P0_ (.slice A l0.length c) x0)∧Aside0 (Kept w w' P0_)∧Aside0 (Below w0.heap.size w0 w'))
 case atStart=>exact ⟨l0,a1,0,(by first|rfl|(simp;done)),(by first|rfl|(simp;done)),H',⟨Nat.le_refl _⟩,⟨rfl⟩,⟨by (with_reducible repeat (first|apply zDb|apply zEb|apply zFb));exact HS.out⟩,⟨by repeat (first|(with_reducible first|exact HK.out|apply Kept.alloc|apply Kept.drewN|apply Kept.drew)|exact HK.out)⟩,⟨by repeat (first|(with_reducible first|exact HB.out|apply zA|apply zB|apply zC)|exact HB.out)⟩⟩
 case round =>
  clear H';obtain ⟨x0,x1,x5,rfl,rfl,HA,HK1,HL,HS,HK,HB⟩:=hrel;cases gk with
  | zero=>exact absurd HA.out (by simp [laws_markBoolSS.l0])
  | succ k1 =>
   have H:=HA.out;clear HA;simp only [laws_markBoolSS.l0] at H
   by_cases c3 : x5 < (x0.length : Int)
   ·rw [if_pos c3] at H;have c3l : x5 < (l0.length : Int):=by have:=HL.out;omega
    have c3b : decide (x5 < (l0.length : Int)) = true:=decide_eq_true c3l;by_cases c4 : 0 ≤ x5
    ·rw [if_pos c4] at H;have c4b : decide (0 ≤ x5) = true:=decide_eq_true c4;replace H:=Option.bind_eq_some_iff.mp H;obtain ⟨⟨b1,b2⟩,A8,H⟩:=H;have H':=zm (show laws_markBoolSS.l0 k1 (x0.set x5.toNat b2) b1 (wrap64 (x5 + 1)) = some r from H);have A9:=zm A8;clear H A8;obtain ⟨go,co,eo,gb,gl,cl,HG⟩:=Kd.S_form HS.out (by omega)
     injection eo with ea en ec
     subst ea
     subst ec
     clear en;obtain ⟨oki,ce,hcl,hM,hcc,hfr,hoki,hH⟩:=Kd.S_elem HS.out [] x5 c4 c3l;obtain ⟨ve,rfl,hR⟩:=hM;have hx:=hcc 0 _ rfl;simp only [show (Kd.slice 4 Kd.bool).sz = 1 from rfl,Nat.mul_one,Nat.add_zero] at hx
     have p5:=eq_true c4;have q5:=eq_true c3l;have HR:=zm hR;have HH:=zm hH;have HO:=zm hoki;clear hR hH hoki hcl hcc hfr gb gl HG c3l c4;go_wp2_with (first|((with_reducible refine gate_callee (f:=40) rfl ?_);refine goesL_ (some 17) rfl rfl Try.func40 (by kernel_rfl) rfl #[ve,.int .i64 x1] rfl (by (try simp only [List.map_toArray,List.map_cons,List.map_nil]);first|done|rfl) ?_;(with_reducible refine (laws_markBoolS.calls k1 oki ve (rd_L2 x0 x5) x1 b1 b2 w0 _ ?side1 ?side2 A9.out).mono ?_);(case side1=>repeat (first|(with_reducible first|exact HB.out|apply zA|apply zB|apply zC)|exact HB.out));(case side2=>(with_reducible repeat (first|apply zP|apply zQ|apply zR));exact HR.out);rintro e w5 ⟨rfl,hR2,hB2,hK2⟩;refine ⟨_,rfl,?_⟩;have n0_:=zm hB2;have n1_:=zm (Kept.then_ HK.out hK2 (fun k_ hk_=>.inl (HO.out k_ hk_).1));have n2_:=zm (Kd.H_back (x':=b2) (Kd.H_kept HH.out hK2 (fun k_ _ hn_ hs_=>hn_ hs_)) ⟨ve,rfl,bool_ok hR2 HR.out.1⟩ (fun _ h_=>h_));clear HB HK HS HH HR HO hx;have HB:=n0_;have HK:=n1_;have HS:=n2_;clear n0_ n1_ n2_ hR2 hB2 hK2))
     go_roundg k1
     case measure=>have:=HK1.out;omega
     case rel=>exact ⟨x0.set x5.toNat b2,b1,wrap64 (x5 + 1),(by first|rfl|(simp;done)),(by first|rfl|(simp;done)),H',⟨by have:=HK1.out;omega⟩,⟨by rw [List.length_set];exact HL.out⟩,⟨by (with_reducible repeat (first|apply zDb|apply zEb|apply zFb));exact HS.out⟩,⟨by repeat (first|(with_reducible first|exact HK.out|apply Kept.alloc|apply Kept.drewN|apply Kept.drew)|exact HK.out)⟩,⟨by repeat (first|(with_reducible first|exact HB.out|apply zA|apply zB|apply zC)|exact HB.out)⟩⟩
    ·rw [if_neg c4] at H;exact absurd H (by simp)
   ·rw [if_neg c3] at H;have c3b : decide (x5 < (l0.length : Int)) = false:=decide_eq_false (by have:=HL.out;omega)
    clear c3;obtain rfl:=Option.some.inj H;go_wp2;go_ret
    exact ⟨by first|rfl|(simp;done)|(simp [*];done),by repeat (first|(with_reducible first|exact HB.out|apply zA|apply zB|apply zC)|exact HB.out),by repeat (first|(with_reducible first|exact HK.out|apply Kept.alloc|apply Kept.drewN|apply Kept.drew)|exact HK.out)⟩

/-! ### laws_markRow: function 12 -/
def laws_markRow.f (k : Nat) (l0 l1 : List Int) (l2 : List Bool) (l3 : List (List Bool)) (a1 : Int) : Option (Int):=(laws_markIntS.f k l0 a1).bind fun b0=>((laws_markIntS.f k l1 b0.1).bind fun b1=>((laws_markBoolS.f k l2 b1.1).bind fun b2=>(laws_markBoolSS.f k l3 b2.1)))
theorem laws_markRow.mono : ∀ a0 a1 a2 a3 a4 k,LeO (laws_markRow.f k a0 a1 a2 a3 a4) (laws_markRow.f (k + 1) a0 a1 a2 a3 a4):=by
 intro a0 a1 a2 a3 a4 k
 unfold laws_markRow.f
 repeat' first
   | (with_reducible exact laws_markIntS.mono _ _ _)
   | (with_reducible exact laws_markBoolS.mono _ _ _)
   | (with_reducible exact laws_markBoolSS.mono _ _ _)
   | (with_reducible exact LeO.refl _)
   | (with_reducible exact LeO.none _)
   | (with_reducible refine LeO.ite ?_ ?_)
   | (with_reducible refine LeO.bind ?_ (fun _=>?_))
   | exact laws_markIntS.mono _ _ _
   | exact laws_markBoolS.mono _ _ _
   | exact laws_markBoolSS.mono _ _ _
   | exact LeO.none _
   | refine LeO.ite ?_ ?_
   | refine LeO.bind ?_ (fun _=>?_)
set_option maxHeartbeats 8000000 in
set_option maxRecDepth 100000 in
theorem laws_markRow.calls (k : Nat) (P0_ P1_ P2_ P3_ : Nat→Prop) (u0 u1 u2 u3 : Value) (l0 l1 : List Int) (l2 : List Bool) (l3 : List (List Bool)) (a1 : Int) (r : Int) (w0 w : World) (hB : Below w0.heap.size w0 w)
  (ho0 : Kd.R (Kd.int .i64) 3 w w0.heap.size P0_ u0 l0) (ho1 : Kd.R (Kd.int .i64) 3 w w0.heap.size P1_ u1 l1) (ho2 : Kd.R Kd.bool 4 w w0.heap.size P2_ u2 l2) (ho3 : Kd.S (Kd.slice 4 Kd.bool) 23 w w0.heap.size P3_ u3 l3)
  (h01 : ∀ k,P0_ k→¬ P1_ k) (h02 : ∀ k,P0_ k→¬ P2_ k) (h03 : ∀ k,P0_ k→¬ P3_ k) (h12 : ∀ k,P1_ k→¬ P2_ k) (h13 : ∀ k,P1_ k→¬ P3_ k) (h23 : ∀ k,P2_ k→¬ P3_ k) (h : laws_markRow.f k l0 l1 l2 l3 a1 = some r) :
  Calls Try.prog 12 #[.agg #[u0,u1,u2,u3],.int .i64 a1] w fun e w'=>e = .returned (.int .i64 r)∧Below w0.heap.size w0 w'∧Kept w w' (fun k=>P0_ k ∨ P1_ k ∨ P2_ k ∨ P3_ k):=by
 have hu30:=Try.underlying30;obtain ⟨A0,c0,rfl⟩:=zAb ho0;obtain ⟨A1,c1,rfl⟩:=zAb ho1;obtain ⟨A2,c2,rfl⟩:=zAb ho2;obtain ⟨A3,c3,rfl⟩:=Kd.S_slice ho3;have HO0:=zm (zS (Kd.R_bound ho0) (fun k hk=>(⟨hk.1,hk.2.2.1⟩ : P0_ k∧k < w.heap.size)))
 have HO1:=zm (zS (Kd.R_bound ho1) (fun k hk=>(⟨hk.1,hk.2.2.1⟩ : P1_ k∧k < w.heap.size)))
 have HO2:=zm (zS (Kd.R_bound ho2) (fun k hk=>(⟨hk.1,hk.2.2.1⟩ : P2_ k∧k < w.heap.size)))
 have HO3:=zm (Kd.S_mono (Kd.S_bound ho3) (fun k hk=>(⟨hk.1,hk.2.2.1⟩ : P3_ k∧k < w.heap.size)))
 have HK:=zm (Kept.refl w (fun k=>P0_ k ∨ P1_ k ∨ P2_ k ∨ P3_ k))
 have HB:=zm hB;clear hB ho0 ho1 ho2 ho3;have H : ((laws_markIntS.f k l0 a1).bind fun b0=>((laws_markIntS.f k l1 b0.1).bind fun b1=>((laws_markBoolS.f k l2 b1.1).bind fun b2=>(laws_markBoolSS.f k l3 b2.1)))) = some r:=h
 clear h;obtain ⟨⟨r0,q0⟩,E0,H⟩:=Option.bind_eq_some_iff.mp H;obtain ⟨⟨r1,q1⟩,E1,H⟩:=Option.bind_eq_some_iff.mp H;obtain ⟨⟨r2,q2⟩,E2,E3⟩:=Option.bind_eq_some_iff.mp H;clear H;have F0:=zm (show laws_markIntS.f k l0 a1 = some (r0,q0) from E0);have F1:=zm (show laws_markIntS.f k l1 r0 = some (r1,q1) from E1);have F2:=zm (show laws_markBoolS.f k l2 r1 = some (r2,q2) from E2);have F3:=zm (show laws_markBoolSS.f k l3 r2 = some r from E3);clear E0 E1 E2 E3;go_enter Try.func12,Try.ntmps12
 go_wp2_with (first
  | ((with_reducible refine zM (N:=2) rfl ?_);refine zN ?hg (N:=2) ?hd (cs:=#[.slice A0 l0.length c0,.slice A1 l1.length c1,.slice A2 l2.length c2,.slice A3 l3.length c3]) (t:=30) ?hr ?_;(case hd=>rfl);(case hg=>rfl);(case hr=>first|(go_simp;done)|(go_simp;rfl));intro gb hg w4 hbox hb;have n0_:=zm (zK HB.out hb);have n1_:=zm hbox;have HG:=zm (show w.heap.size ≤ gb from Nat.le_of_eq (by rw [hg]));have n2_:=zm (zHb HO0.out hb);have n3_:=zm (zHb HO1.out hb);have n4_:=zm (zHb HO2.out hb);have n5_:=zm (Kd.S_below HO3.out hb);have n6_:=zm (Kept.below HK.out hb);clear HB HO0 HO1 HO2 HO3 HK hg hbox hb;have HB:=n0_;have HBK:=n1_;have HO0:=n2_;have HO1:=n3_;have HO2:=n4_;have HO3:=n5_;have HK:=n6_;clear n0_ n1_ n2_ n3_ n4_ n5_ n6_;have hz0 : w4.cell? ⟨gb,0,none⟩ = some (.slice A0 l0.length c0):=(zD HBK.out 0).trans rfl)
  | ((with_reducible refine gate_callee (f:=39) rfl ?_);refine goesL_ (some 8) rfl rfl Try.func39 (by kernel_rfl) rfl #[.slice A0 l0.length c0,.int .i64 a1] rfl (by (try simp only [List.map_toArray,List.map_cons,List.map_nil]);first|done|rfl) ?_;(with_reducible refine (laws_markIntS.calls k (fun k=>P0_ k∧k < w.heap.size) (.slice A0 l0.length c0) l0 a1 r0 q0 w0 _ ?side1 ?side2 F0.out).mono ?_);(case side1=>exact HB.out);(case side2=>exact HO0.out);rintro e w5 ⟨rfl,hR2,hB2,hK2⟩;refine ⟨_,rfl,?_⟩;have n0_:=zm hB2;have n1_:=zm (blk_kept HBK.out hK2 (fun hs=>absurd hs.2 (Nat.not_lt.mpr HG.out)));have n3_:=zm (Kd.R_kept HO1.out hK2 (fun k hk hs=>h01 k hs.1 hk.1));have n4_:=zm (Kd.R_kept HO2.out hK2 (fun k hk hs=>h02 k hs.1 hk.1));have n5_:=zm (Kd.S_kept HO3.out hK2 (fun k hk hs=>h03 k hs.1 hk.1));have n6_:=zm (Kept.then_ HK.out hK2 (fun k hk=>.inl (.inl hk.1)));clear HB HBK HO0 HO1 HO2 HO3 HK hz0 hR2 hB2 hK2;have HB:=n0_;have HBK:=n1_;have HO1:=n3_;have HO2:=n4_;have HO3:=n5_;have HK:=n6_;clear n0_ n1_ n3_ n4_ n5_ n6_;have hz1 : w5.cell? ⟨gb,1,none⟩ = some (.slice A1 l1.length c1):=(zD HBK.out 1).trans rfl)
  | ((with_reducible refine gate_callee (f:=39) rfl ?_);refine goesL_ (some 12) rfl rfl Try.func39 (by kernel_rfl) rfl #[.slice A1 l1.length c1,.int .i64 r0] rfl (by (try simp only [List.map_toArray,List.map_cons,List.map_nil]);first|done|rfl) ?_;(with_reducible refine (laws_markIntS.calls k (fun k=>P1_ k∧k < w.heap.size) (.slice A1 l1.length c1) l1 r0 r1 q1 w0 _ ?side1 ?side2 F1.out).mono ?_);(case side1=>exact HB.out);(case side2=>exact HO1.out);rintro e w6 ⟨rfl,hR2,hB2,hK2⟩;refine ⟨_,rfl,?_⟩;have n0_:=zm hB2;have n1_:=zm (blk_kept HBK.out hK2 (fun hs=>absurd hs.2 (Nat.not_lt.mpr HG.out)));have n4_:=zm (Kd.R_kept HO2.out hK2 (fun k hk hs=>h12 k hs.1 hk.1));have n5_:=zm (Kd.S_kept HO3.out hK2 (fun k hk hs=>h13 k hs.1 hk.1));have n6_:=zm (Kept.then_ HK.out hK2 (fun k hk=>.inl (.inr (.inl hk.1))));clear HB HBK HO1 HO2 HO3 HK hz1 hR2 hB2 hK2;have HB:=n0_;have HBK:=n1_;have HO2:=n4_;have HO3:=n5_;have HK:=n6_;clear n0_ n1_ n4_ n5_ n6_;have hz2 : w6.cell? ⟨gb,2,none⟩ = some (.slice A2 l2.length c2):=(zD HBK.out 2).trans rfl)
  | ((with_reducible refine gate_callee (f:=40) rfl ?_);refine goesL_ (some 16) rfl rfl Try.func40 (by kernel_rfl) rfl #[.slice A2 l2.length c2,.int .i64 r1] rfl (by (try simp only [List.map_toArray,List.map_cons,List.map_nil]);first|done|rfl) ?_;(with_reducible refine (laws_markBoolS.calls k (fun k=>P2_ k∧k < w.heap.size) (.slice A2 l2.length c2) l2 r1 r2 q2 w0 _ ?side1 ?side2 F2.out).mono ?_);(case side1=>exact HB.out);(case side2=>exact HO2.out);rintro e w7 ⟨rfl,hR2,hB2,hK2⟩;refine ⟨_,rfl,?_⟩;have n0_:=zm hB2;have n1_:=zm (blk_kept HBK.out hK2 (fun hs=>absurd hs.2 (Nat.not_lt.mpr HG.out)));have n5_:=zm (Kd.S_kept HO3.out hK2 (fun k hk hs=>h23 k hs.1 hk.1));have n6_:=zm (Kept.then_ HK.out hK2 (fun k hk=>.inl (.inr (.inr (.inl hk.1)))));clear HB HBK HO2 HO3 HK hz2 hR2 hB2 hK2;have HB:=n0_;have HBK:=n1_;have HO3:=n5_;have HK:=n6_;clear n0_ n1_ n5_ n6_;have hz3 : w7.cell? ⟨gb,3,none⟩ = some (.slice A3 l3.length c3):=(zD HBK.out 3).trans rfl)
  | ((with_reducible refine gate_callee (f:=41) rfl ?_);refine goesL_ (some 20) rfl rfl Try.func41 (by kernel_rfl) rfl #[.slice A3 l3.length c3,.int .i64 r2] rfl (by (try simp only [List.map_toArray,List.map_cons,List.map_nil]);first|done|rfl) ?_;(with_reducible refine (laws_markBoolSS.calls k (fun k=>P3_ k∧k < w.heap.size) (.slice A3 l3.length c3) l3 r2 r w0 _ ?side1 ?side2 F3.out).mono ?_);(case side1=>exact HB.out);(case side2=>exact HO3.out);rintro e w8 ⟨rfl,hB2,hK2⟩;refine ⟨_,rfl,?_⟩;have n0_:=zm hB2;have n6_:=zm (Kept.then_ HK.out hK2 (fun k hk=>.inl (.inr (.inr (.inr hk.1)))));clear HB HBK HO3 HK hz3 hB2 hK2;have HB:=n0_;have HK:=n6_;clear n0_ n6_))
 go_ret
 exact ⟨by first|rfl|(simp;done)|(simp [*];done),by repeat (first|(with_reducible first|exact HB.out|apply zA|apply zB|apply zC)|exact HB.out),by repeat (first|(with_reducible first|exact HK.out|apply Kept.alloc|apply Kept.drewN|apply Kept.drew)|exact HK.out)⟩
def MarkT (w : World) (k : Nat) : Prop:=∃ q,(q = 23 ∨ q = 4)∧∃ cells,w.heap[k]? = some (.cells cells q (0,0))
theorem MarkT.not {w : World} {k t : Nat} {cells : Array Value} (hb : w.heap[k]? = some (.cells cells t (0,0))) (ht : t ≠ 23∧t ≠ 4) : ¬ MarkT w k:=by
 rintro ⟨q,hq,c,hc⟩
 have h:=hb.symm.trans hc;simp only [Option.some.injEq,Obj.cells.injEq] at h
 rcases hq with rfl|rfl
 ·exact ht.1 h.2.1
 ·exact ht.2 h.2.1
theorem R_ok4 {α : Type} {d : Kd α} {e : Nat} {w : World} {base : Nat} {ok : Nat→Prop} {v : Value} {xs : List α} (h : d.R e w base ok v xs) : ∀ k,some k = v.ownBlock→ok k:=fun k e=>h.1 k e.symm
theorem R_keep4 {α : Type} {d : Kd α} {e : Nat} {W W2 : World} {base : Nat} {ok S : Nat→Prop} {u : Value} {xs : List α} (h : d.R e W base ok u xs) (hk : Kept W W2 (fun k=>S k ∨ MarkT W k)) (ht : ∀ q,q ∈ e :: d.E→q ≠ 23∧q ≠ 4) (hne : ∀ k,ok k→¬ S k) : d.R e W2 base (fun k=>ok k∧(¬ S k∧k < W.heap.size)) u xs:=by
 refine zS (Kd.R_keptB (Kd.R_bound h) hk (fun k hk hs=>?_)) (fun k hk=>⟨hk.1.1,fun hs=>hk.2.1 (.inl hs),hk.2.2⟩)
 rcases hs with hs|hs
 ·exact hne k hk.1 hs
 ·obtain ⟨q,hq,cells,hc⟩:=hk.2.2.2;exact MarkT.not hc (ht q hq) hs
theorem blk_keep4 {W W2 : World} {S : Nat→Prop} {g t : Nat} {cells : Array Value} (hb : W.heap[g]? = some (.cells cells t (0,0))) (hk : Kept W W2 (fun k=>S k ∨ MarkT W k)) (ht : t ≠ 23∧t ≠ 4) (hne : ¬ S g) : W2.heap[g]? = some (.cells cells t (0,0)) :=
 blk_kept hb hk (fun hs=>hs.elim hne (MarkT.not hb ht))
theorem laws_markRow.calls2 (k : Nat) {u0 u1 u2 u3 : Value} {l0 l1 : List Int} {l2 : List Bool} {l3 : List (List Bool)} {ok0 ok1 ok2 ok3 : Nat→Prop} (a1 : Int) (r : Int) (w0 w : World) (hB : Below w0.heap.size w0 w)
  (ho0 : Kd.R (Kd.int .i64) 3 w w0.heap.size ok0 u0 l0) (ho1 : Kd.R (Kd.int .i64) 3 w w0.heap.size ok1 u1 l1) (ho2 : Kd.R Kd.bool 4 w w0.heap.size ok2 u2 l2) (ho3 : Kd.S (Kd.slice 4 Kd.bool) 23 w w0.heap.size ok3 u3 l3)
  (h01 : ∀ k,some k = u0.ownBlock→some k ≠ u1.ownBlock) (h23 : ∀ k,ok3 k→some k ≠ u2.ownBlock) (h : laws_markRow.f k l0 l1 l2 l3 a1 = some r) :
  Calls Try.prog 12 #[.agg #[u0,u1,u2,u3],.int .i64 a1] w fun e w'=>e = .returned (.int .i64 r)∧Below w0.heap.size w0 w'∧Kept w w' (fun k=>(some k = u0.ownBlock ∨ some k = u1.ownBlock ∨ some k = u2.ownBlock) ∨ MarkT w k):=by
 have ty : ∀ k,(ok3 k∧w0.heap.size ≤ k∧k < w.heap.size∧∃ q,q ∈ 23 :: (Kd.slice 4 Kd.bool).E∧∃ cells,w.heap[k]? = some (.cells cells q (0,0)))→MarkT w k:=by
  rintro k ⟨_,_,_,q,hq,hc⟩
  refine ⟨q,?_,hc⟩
  have : q ∈ [23,4]:=hq;simpa using this
 refine (laws_markRow.calls k _ _ _ _ u0 u1 u2 u3 l0 l1 l2 l3 a1 r w0 w hB (Kd.R_tight rfl ho0) (Kd.R_tight rfl ho1) (Kd.R_tight rfl ho2) (Kd.S_bound ho3) (fun k e0 e1=>h01 k e0 e1) (fun k e0 e2=>?_) (fun k e0 h3=>?_) (fun k e1 e2=>?_) (fun k e1 h3=>?_) (fun k e2 h3=>h23 k h3.1 e2) h).mono ?_
 ·obtain ⟨c,hc⟩:=Kd.R_typed ho0 k e0.symm;exact Kd.R_ne ho2 hc (by decide) e2
 ·obtain ⟨c,hc⟩:=Kd.R_typed ho0 k e0.symm;exact MarkT.not hc (by decide) (ty k h3)
 ·obtain ⟨c,hc⟩:=Kd.R_typed ho1 k e1.symm;exact Kd.R_ne ho2 hc (by decide) e2
 ·obtain ⟨c,hc⟩:=Kd.R_typed ho1 k e1.symm;exact MarkT.not hc (by decide) (ty k h3)
 ·rintro e w' ⟨rfl,hb,hk⟩
  refine ⟨rfl,hb,Kept.mono hk (fun k h=>?_)⟩
  rcases h with h|h|h|h
  ·exact .inl (.inl h)
  ·exact .inl (.inr (.inl h))
  ·exact .inl (.inr (.inr h))
  ·exact .inr (ty k h)

/-! ### laws_markChangeS: function 13 -/
def laws_markChangeS.l0 : Nat→List (S58)→Int→Int→Option (Int × (List (S58)))
 | 0,_,_,_=>none
 | k + 1,x0,x1,x5=>if x5 < (x0.length : Int) then (if 0 ≤ x5 then ((some (x0.set (x5 : Int).toNat (⟨x1,(rd_T58 x0 x5).f1,(rd_T58 x0 x5).f2⟩ : S58) : List (S58))).bind fun y380=>((some (y380.set (x5 : Int).toNat (⟨(rd_T58 y380 x5).f0,wrap64 (x1 + 1),(rd_T58 y380 x5).f2⟩ : S58) : List (S58))).bind fun y381=>(laws_markChangeS.l0 k (y381.set (x5 : Int).toNat (⟨(rd_T58 y381 x5).f0,(rd_T58 y381 x5).f1,wrap64 ((wrap64 (x1 + 1)) + 1)⟩ : S58)) (wrap64 ((wrap64 ((wrap64 (x1 + 1)) + 1)) + 1)) (wrap64 (x5 + 1))))) else (none)) else (some (x1,x0))
def laws_markChangeS.f (k : Nat) (l0 : List (S58)) (a1 : Int) : Option (Int × (List (S58))):=laws_markChangeS.l0 k l0 a1 0
theorem laws_markChangeS.mono_l : ∀ k,(∀ y0 y1 y2,LeO (laws_markChangeS.l0 k y0 y1 y2) (laws_markChangeS.l0 (k + 1) y0 y1 y2))
 | 0=>fun _ _ _ r h=>by simp [laws_markChangeS.l0] at h
 | k + 1=>by
  have ih0:=laws_markChangeS.mono_l k
  ·intro y0 y1 y2
   unfold laws_markChangeS.l0
   repeat' first
   | (with_reducible exact ih0 _ _ _)
   | (with_reducible exact LeO.refl _)
   | (with_reducible exact LeO.none _)
   | (with_reducible refine LeO.ite ?_ ?_)
   | (with_reducible refine LeO.bind ?_ (fun _=>?_))
   | exact ih0 _ _ _
   | exact LeO.none _
   | refine LeO.ite ?_ ?_
   | refine LeO.bind ?_ (fun _=>?_)
theorem laws_markChangeS.mono : ∀ a0 a1 k,LeO (laws_markChangeS.f k a0 a1) (laws_markChangeS.f (k + 1) a0 a1):=by
 intro a0 a1 k
 have ih0:=laws_markChangeS.mono_l k;unfold laws_markChangeS.f
 repeat' first
   | (with_reducible exact ih0 _ _ _)
   | (with_reducible exact LeO.refl _)
   | (with_reducible exact LeO.none _)
   | (with_reducible refine LeO.ite ?_ ?_)
   | (with_reducible refine LeO.bind ?_ (fun _=>?_))
   | exact ih0 _ _ _
   | exact LeO.none _
   | refine LeO.ite ?_ ?_
   | refine LeO.bind ?_ (fun _=>?_)
set_option maxHeartbeats 8000000 in
set_option maxRecDepth 100000 in
theorem laws_markChangeS.calls (k : Nat) (P0_ : Nat→Prop) (u9000_ : Value) (l0 : List (S58)) (a1 : Int) (r1 : Int) (r2 : List (S58)) (w0 w : World) (hB : Below w0.heap.size w0 w) (ho0 : Kd.R k58 58 w w0.heap.size P0_ u9000_ l0) (h : laws_markChangeS.f k l0 a1 = some (r1,r2)) :
  Calls Try.prog 13 #[u9000_,.int .i64 a1] w fun e w'=>e = .returned (.int .i64 r1)∧Kd.R k58 58 w' w0.heap.size (fun k_=>(P0_ k_ ∨ w.heap.size ≤ k_)) u9000_ r2∧Below w0.heap.size w0 w'∧Kept w w' (fun k_=>P0_ k_):=by
 have HO0:=zm (show Kd.R k58 58 w w0.heap.size (fun k_=>(P0_ k_ ∨ w.heap.size ≤ k_)) u9000_ l0 from zS ho0 (fun k_ hk=>(.inl hk)))
 have HK:=zm (Kept.refl w (fun k_=>P0_ k_))
 have HW0:=zm hB.size;have HB:=zm hB;clear hB;have H : (laws_markChangeS.l0 k l0 a1 0) = some (r1,r2):=h;clear h;have H':=zm H;clear H;go_enter Try.func13,Try.ntmps13
 go_wp2;go_loopg [1,5] k (fun kq v1 v5 w'=>∃ (x0_1 : List (S58)) (x1_1 : Int) (x5_1 : Int),v1 = .int .i64 x1_1∧v5 = .int .i64 x5_1∧Aside0 (laws_markChangeS.l0 kq x0_1 x1_1 x5_1 = some (r1,r2))∧Aside0 (kq ≤ k)∧Aside0 (Kd.R k58 58 w' w0.heap.size (fun k_=>(P0_ k_ ∨ w.heap.size ≤ k_)) u9000_ x0_1)∧Aside0 (Kept w w' (fun k_=>P0_ k_))∧Aside0 (Below w0.heap.size w0 w'))
 case atStart=>exact ⟨(l0),(a1),(0),(by first|rfl|(simp;done)|(simp [*];done)),(by first|rfl|(simp;done)|(simp [*];done)),H',⟨Nat.le_refl _⟩,⟨by (with_reducible repeat (first|apply zP|apply zQ|apply zR));exact HO0.out⟩,⟨by repeat (first|(with_reducible first|exact HK.out|apply Kept.alloc|apply Kept.drewN|apply Kept.drew)|exact HK.out)⟩,⟨by repeat (first|(with_reducible first|exact HB.out|apply zA|apply zB|apply zC)|exact HB.out)⟩⟩
 case round =>
  clear H';(try clear c1);(try clear p2);obtain ⟨x0_1,x1_1,x5_1,rfl,rfl,HA,HK1,HO_0,HK,HB⟩:=hrel;cases gk with
  | zero=>exact absurd HA.out (by simp [laws_markChangeS.l0])
  | succ k1 =>
   have H:=HA.out;clear HA;simp only [laws_markChangeS.l0] at H
   by_cases c3 : x5_1 < (x0_1.length : Int)
   ·rw [if_pos c3] at H;have c3b0 : decide (x5_1 < (x0_1.length : Int)) = true:=decide_eq_true c3;clear c3;by_cases c4 : 0 ≤ x5_1
    ·rw [if_pos c4] at H;have c4b0 : decide (0 ≤ x5_1) = true:=decide_eq_true c4;clear c4;obtain ⟨y380,hy380⟩ : ∃ y_ : List (S58),y_ = (x0_1.set (x5_1 : Int).toNat (⟨x1_1,(rd_T58 x0_1 x5_1).f1,(rd_T58 x0_1 x5_1).f2⟩ : S58)):=⟨_,rfl⟩;replace H : ((some (y380.set (x5_1 : Int).toNat (⟨(rd_T58 y380 x5_1).f0,wrap64 (x1_1 + 1),(rd_T58 y380 x5_1).f2⟩ : S58) : List (S58))).bind fun y381=>(laws_markChangeS.l0 k1 (y381.set (x5_1 : Int).toNat (⟨(rd_T58 y381 x5_1).f0,(rd_T58 y381 x5_1).f1,wrap64 ((wrap64 (x1_1 + 1)) + 1)⟩ : S58)) (wrap64 ((wrap64 ((wrap64 (x1_1 + 1)) + 1)) + 1)) (wrap64 (x5_1 + 1)))) = some (r1,r2):=by first|(rw [hy380];with_reducible exact H)|(have H2_:=(Option.bind_some _ _).symm.trans H;rw [hy380];with_reducible exact H2_)|(have H2_:=(Option.bind_some _ _).symm.trans H;with_reducible exact H2_)|with_reducible exact H|(rw [hy380];exact H)|exact H
     have Ny380:=zm hy380;clear hy380;obtain ⟨y381,hy381⟩ : ∃ y_ : List (S58),y_ = (y380.set (x5_1 : Int).toNat (⟨(rd_T58 y380 x5_1).f0,wrap64 (x1_1 + 1),(rd_T58 y380 x5_1).f2⟩ : S58)):=⟨_,rfl⟩;replace H : (laws_markChangeS.l0 k1 (y381.set (x5_1 : Int).toNat (⟨(rd_T58 y381 x5_1).f0,(rd_T58 y381 x5_1).f1,wrap64 ((wrap64 (x1_1 + 1)) + 1)⟩ : S58)) (wrap64 ((wrap64 ((wrap64 (x1_1 + 1)) + 1)) + 1)) (wrap64 (x5_1 + 1))) = some (r1,r2):=by first|(rw [hy381];with_reducible exact H)|(have H2_:=(Option.bind_some _ _).symm.trans H;rw [hy381];with_reducible exact H2_)|(have H2_:=(Option.bind_some _ _).symm.trans H;with_reducible exact H2_)|with_reducible exact H|(rw [hy381];exact H)|exact H
     have Ny381:=zm hy381;clear hy381;obtain ⟨y382,hy382⟩ : ∃ y_ : List (S58),y_ = (y381.set (x5_1 : Int).toNat (⟨(rd_T58 y381 x5_1).f0,(rd_T58 y381 x5_1).f1,wrap64 ((wrap64 (x1_1 + 1)) + 1)⟩ : S58)):=⟨_,rfl⟩;replace H : (laws_markChangeS.l0 k1 y382 (wrap64 ((wrap64 ((wrap64 (x1_1 + 1)) + 1)) + 1)) (wrap64 (x5_1 + 1))) = some (r1,r2):=by first|(rw [hy382];with_reducible exact H)|(have H2_:=(Option.bind_some _ _).symm.trans H;rw [hy382];with_reducible exact H2_)|(have H2_:=(Option.bind_some _ _).symm.trans H;with_reducible exact H2_)|with_reducible exact H|(rw [hy382];exact H)|exact H
     have Ny382:=zm hy382;clear hy382;have H':=zm H;clear H;obtain ⟨Ao8,co8,eo8⟩:=zAb HO_0.out;subst eo8
     have p5 : 0 ≤ (x5_1 : Int):=of_decide_eq_true (by first|(with_reducible assumption)|assumption)
     have q5 : (x5_1 : Int) < ((x0_1.length : Int) : Int):=of_decide_eq_true (by first|(with_reducible assumption)|assumption)
     obtain ⟨go5,co5,eo5,gb5,gl5,cl5,HG5⟩:=Kd.R_form HO_0.out (by omega)
     (first|cases eo5|(injection eo5 with ea_ en_ ec_;(first|subst ea_|(injection ea_ with ea_;subst ea_));subst ec_;clear en_))
     have GB5:=zm gb5;have GG5:=zm HG5;clear gb5 gl5 HG5;have HMgo5:=zm (show (P0_ go5 ∨ w.heap.size ≤ go5) from (HO_0.out.1 _ rfl));obtain ⟨ce5,hcl5,hM5,hcc5,hfr5⟩:=Kd.R_elem HO_0.out z58 (x5_1 : Int) p5 q5;obtain rfl:=k58_openM hM5;have hx5_0 : wr.cell? ⟨go5,(x5_1 : Int).toNat * 3,none⟩ = some (.int .i64 ((rd_T58 x0_1 x5_1).f0)):=hcc5 0 _ rfl;have hx5_1 : wr.cell? ⟨go5,(x5_1 : Int).toNat * 3 + 1,none⟩ = some (.int .i64 ((rd_T58 x0_1 x5_1).f1)):=hcc5 1 _ rfl;have hx5_2 : wr.cell? ⟨go5,(x5_1 : Int).toNat * 3 + 2,none⟩ = some (.int .i64 ((rd_T58 x0_1 x5_1).f2)):=hcc5 2 _ rfl;have hf5_0 : wr.frozen? ⟨go5,(x5_1 : Int).toNat * 3,none⟩ = false:=hfr5 0;have hf5_1 : wr.frozen? ⟨go5,(x5_1 : Int).toNat * 3 + 1,none⟩ = false:=hfr5 1;have hf5_2 : wr.frozen? ⟨go5,(x5_1 : Int).toNat * 3 + 2,none⟩ = false:=hfr5 2;(try clear hcl5);(try clear hcc5);(try clear hfr5);(try clear hM5)
     replace p5:=eq_true p5;replace q5:=eq_true q5;have HX9:=zm (show Kd.R k58 58 wr w0.heap.size (fun k_=>(P0_ k_ ∨ w.heap.size ≤ k_)) (.slice (some ⟨go5,0,none⟩) x0_1.length co8) x0_1 from (by (with_reducible repeat (first|apply zP|apply zQ|apply zR));exact HO_0.out))
     obtain ⟨ce9,hcl9,hM9,hcc9,hfr9⟩:=Kd.R_elem HX9.out z58 (x5_1 : Int) (of_decide_eq_true (by first|(with_reducible assumption)|assumption)) (by have h_ : (x5_1 : Int) < ((x0_1.length : Int) : Int):=of_decide_eq_true (by first|(with_reducible assumption)|assumption);first|exact h_|(have e_:=(zW HO_0.out).1;omega)|simpa using h_)
     obtain rfl:=k58_openM hM9;have HP9:=Kd.R_seg HX9.out (x5_1 : Int) (of_decide_eq_true (by first|(with_reducible assumption)|assumption)) (by have h_ : (x5_1 : Int) < ((x0_1.length : Int) : Int):=of_decide_eq_true (by first|(with_reducible assumption)|assumption);first|exact h_|(have e_:=(zW HO_0.out).1;omega)|simpa using h_) (seg:=[.int .i64 x1_1]) (j:=0) hcl9 hcc9 (show 1 ≤ 3 from by decide) (x':=(⟨x1_1,(rd_T58 x0_1 x5_1).f1,(rd_T58 x0_1 x5_1).f2⟩ : S58)) (k58_mkM _ _ _ (⟨x1_1,(rd_T58 x0_1 x5_1).f1,(rd_T58 x0_1 x5_1).f2⟩ : S58) ) (fun _ hk=>hk)
     have hx9_0:=hcc9 0 _ rfl;(try simp only [show (k58).sz = 3 from rfl,Nat.mul_one,Nat.add_zero] at hx9_0)
     have hf9_0:=hfr9 0;(try simp only [show (k58).sz = 3 from rfl,Nat.mul_one,Nat.add_zero] at hf9_0)
     (try clear hcl9);(try clear hcc9);(try clear hfr9);(try clear hM9)
     go_wp2_with (first|((with_reducible refine gate_store (t:=3) (p:=16) rfl ?_);refine store_event (t:=3) (p:=16) (v:=?vo_w10) (w1:=(wr.setCell ⟨go5,(x5_1 : Int).toNat * 3,none⟩ (.int .i64 x1_1))) ?hg ?ho ?hn ?hr ?_;(case ho=>rfl);(case hg=>rfl);(case hn=>rfl);(case hr=>first|(go_simp;done)|(go_simp;rfl));intro w10 hw;have hg : wr.grownBy w10 (some go5):=(by rw [hw];exact HP9.2);have hp_ : Kd.R k58 58 w10 w0.heap.size (fun k_=>(P0_ k_ ∨ w.heap.size ≤ k_)) (.slice (some ⟨go5,0,none⟩) x0_1.length co8) y380:=(by rw [hw,Ny380.out];exact HP9.1);clear HP9;have n0_:=zm (hp_);have n1_:=zm ((by rw [hw];exact zF (HB.out) GB5.out : Below w0.heap.size w0 w10));have n2_:=zm (Kept.of_grown (S:=(fun k_=>P0_ k_)) hg (by repeat (first|(with_reducible first|exact HK.out|apply Kept.alloc|apply Kept.drewN|apply Kept.drew)|exact HK.out)) (fun k_ e_=>(HO_0.out.1 k_ e_)));clear HO_0;clear HB;clear HK;have HO_0:=n0_;have HB:=n1_;have HK:=n2_;clear n0_ n1_ n2_;clear hg hw hp_;have p6 : 0 ≤ (x5_1 : Int):=of_decide_eq_true (by first|(with_reducible assumption)|assumption);have q6 : (x5_1 : Int) < ((x0_1.length : Int) : Int):=of_decide_eq_true (by first|(with_reducible assumption)|assumption);obtain ⟨ce6,hcl6,hM6,hcc6,hfr6⟩:=Kd.R_elem HO_0.out z58 (x5_1 : Int) p6 q6;obtain rfl:=k58_openM hM6;have hx6_0 : w10.cell? ⟨go5,(x5_1 : Int).toNat * 3,none⟩ = some (.int .i64 ((rd_T58 y380 x5_1).f0)):=hcc6 0 _ rfl;have hx6_1 : w10.cell? ⟨go5,(x5_1 : Int).toNat * 3 + 1,none⟩ = some (.int .i64 ((rd_T58 y380 x5_1).f1)):=hcc6 1 _ rfl;have hx6_2 : w10.cell? ⟨go5,(x5_1 : Int).toNat * 3 + 2,none⟩ = some (.int .i64 ((rd_T58 y380 x5_1).f2)):=hcc6 2 _ rfl;have hf6_0 : w10.frozen? ⟨go5,(x5_1 : Int).toNat * 3,none⟩ = false:=hfr6 0;have hf6_1 : w10.frozen? ⟨go5,(x5_1 : Int).toNat * 3 + 1,none⟩ = false:=hfr6 1;have hf6_2 : w10.frozen? ⟨go5,(x5_1 : Int).toNat * 3 + 2,none⟩ = false:=hfr6 2;(try clear hcl6);(try clear hcc6);(try clear hfr6);(try clear hM6);replace p6:=eq_true p6;replace q6:=eq_true q6;have HX11:=zm (show Kd.R k58 58 w10 w0.heap.size (fun k_=>(P0_ k_ ∨ w.heap.size ≤ k_)) (.slice (some ⟨go5,0,none⟩) x0_1.length co8) y380 from (by (with_reducible repeat (first|apply zP|apply zQ|apply zR));exact HO_0.out));obtain ⟨ce11,hcl11,hM11,hcc11,hfr11⟩:=Kd.R_elem HX11.out z58 (x5_1 : Int) (of_decide_eq_true (by first|(with_reducible assumption)|assumption)) (by have h_ : (x5_1 : Int) < ((x0_1.length : Int) : Int):=of_decide_eq_true (by first|(with_reducible assumption)|assumption);first|exact h_|(have e_:=(zW HO_0.out).1;omega)|simpa using h_);obtain rfl:=k58_openM hM11;have HP11:=Kd.R_seg HX11.out (x5_1 : Int) (of_decide_eq_true (by first|(with_reducible assumption)|assumption)) (by have h_ : (x5_1 : Int) < ((x0_1.length : Int) : Int):=of_decide_eq_true (by first|(with_reducible assumption)|assumption);first|exact h_|(have e_:=(zW HO_0.out).1;omega)|simpa using h_) (seg:=[.int .i64 (wrap64 (x1_1 + 1))]) (j:=1) hcl11 hcc11 (show 2 ≤ 3 from by decide) (x':=(⟨(rd_T58 y380 x5_1).f0,wrap64 (x1_1 + 1),(rd_T58 y380 x5_1).f2⟩ : S58)) (k58_mkM _ _ _ (⟨(rd_T58 y380 x5_1).f0,wrap64 (x1_1 + 1),(rd_T58 y380 x5_1).f2⟩ : S58) ) (fun _ hk=>hk);have hx11_1:=hcc11 1 _ rfl;(try simp only [show (k58).sz = 3 from rfl,Nat.mul_one,Nat.add_zero] at hx11_1);have hf11_1:=hfr11 1;(try simp only [show (k58).sz = 3 from rfl,Nat.mul_one,Nat.add_zero] at hf11_1);(try clear hcl11);(try clear hcc11);(try clear hfr11);(try clear hM11))|((with_reducible refine gate_store (t:=3) (p:=23) rfl ?_);refine store_event (t:=3) (p:=23) (v:=?vo_w12) (w1:=(w10.setCell ⟨go5,(x5_1 : Int).toNat * 3 + 1,none⟩ (.int .i64 (wrap64 (x1_1 + 1))))) ?hg ?ho ?hn ?hr ?_;(case ho=>rfl);(case hg=>rfl);(case hn=>rfl);(case hr=>first|(go_simp;done)|(go_simp;rfl));intro w12 hw;have hg : w10.grownBy w12 (some go5):=(by rw [hw];exact HP11.2);have hp_ : Kd.R k58 58 w12 w0.heap.size (fun k_=>(P0_ k_ ∨ w.heap.size ≤ k_)) (.slice (some ⟨go5,0,none⟩) x0_1.length co8) y381:=(by rw [hw,Ny381.out];exact HP11.1);clear HP11;have n0_:=zm (hp_);have n1_:=zm ((by rw [hw];exact zF (HB.out) GB5.out : Below w0.heap.size w0 w12));have n2_:=zm (Kept.of_grown (S:=(fun k_=>P0_ k_)) hg (by repeat (first|(with_reducible first|exact HK.out|apply Kept.alloc|apply Kept.drewN|apply Kept.drew)|exact HK.out)) (fun k_ e_=>(HO_0.out.1 k_ e_)));clear HO_0;clear HB;clear HK;have HO_0:=n0_;have HB:=n1_;have HK:=n2_;clear n0_ n1_ n2_;clear hg hw hp_;have p7 : 0 ≤ (x5_1 : Int):=of_decide_eq_true (by first|(with_reducible assumption)|assumption);have q7 : (x5_1 : Int) < ((x0_1.length : Int) : Int):=of_decide_eq_true (by first|(with_reducible assumption)|assumption);obtain ⟨ce7,hcl7,hM7,hcc7,hfr7⟩:=Kd.R_elem HO_0.out z58 (x5_1 : Int) p7 q7;obtain rfl:=k58_openM hM7;have hx7_0 : w12.cell? ⟨go5,(x5_1 : Int).toNat * 3,none⟩ = some (.int .i64 ((rd_T58 y381 x5_1).f0)):=hcc7 0 _ rfl;have hx7_1 : w12.cell? ⟨go5,(x5_1 : Int).toNat * 3 + 1,none⟩ = some (.int .i64 ((rd_T58 y381 x5_1).f1)):=hcc7 1 _ rfl;have hx7_2 : w12.cell? ⟨go5,(x5_1 : Int).toNat * 3 + 2,none⟩ = some (.int .i64 ((rd_T58 y381 x5_1).f2)):=hcc7 2 _ rfl;have hf7_0 : w12.frozen? ⟨go5,(x5_1 : Int).toNat * 3,none⟩ = false:=hfr7 0;have hf7_1 : w12.frozen? ⟨go5,(x5_1 : Int).toNat * 3 + 1,none⟩ = false:=hfr7 1;have hf7_2 : w12.frozen? ⟨go5,(x5_1 : Int).toNat * 3 + 2,none⟩ = false:=hfr7 2;(try clear hcl7);(try clear hcc7);(try clear hfr7);(try clear hM7);replace p7:=eq_true p7;replace q7:=eq_true q7;have HX13:=zm (show Kd.R k58 58 w12 w0.heap.size (fun k_=>(P0_ k_ ∨ w.heap.size ≤ k_)) (.slice (some ⟨go5,0,none⟩) x0_1.length co8) y381 from (by (with_reducible repeat (first|apply zP|apply zQ|apply zR));exact HO_0.out));obtain ⟨ce13,hcl13,hM13,hcc13,hfr13⟩:=Kd.R_elem HX13.out z58 (x5_1 : Int) (of_decide_eq_true (by first|(with_reducible assumption)|assumption)) (by have h_ : (x5_1 : Int) < ((x0_1.length : Int) : Int):=of_decide_eq_true (by first|(with_reducible assumption)|assumption);first|exact h_|(have e_:=(zW HO_0.out).1;omega)|simpa using h_);obtain rfl:=k58_openM hM13;have HP13:=Kd.R_seg HX13.out (x5_1 : Int) (of_decide_eq_true (by first|(with_reducible assumption)|assumption)) (by have h_ : (x5_1 : Int) < ((x0_1.length : Int) : Int):=of_decide_eq_true (by first|(with_reducible assumption)|assumption);first|exact h_|(have e_:=(zW HO_0.out).1;omega)|simpa using h_) (seg:=[.int .i64 (wrap64 ((wrap64 (x1_1 + 1)) + 1))]) (j:=2) hcl13 hcc13 (show 3 ≤ 3 from by decide) (x':=(⟨(rd_T58 y381 x5_1).f0,(rd_T58 y381 x5_1).f1,wrap64 ((wrap64 (x1_1 + 1)) + 1)⟩ : S58)) (k58_mkM _ _ _ (⟨(rd_T58 y381 x5_1).f0,(rd_T58 y381 x5_1).f1,wrap64 ((wrap64 (x1_1 + 1)) + 1)⟩ : S58) ) (fun _ hk=>hk);have hx13_2:=hcc13 2 _ rfl;(try simp only [show (k58).sz = 3 from rfl,Nat.mul_one,Nat.add_zero] at hx13_2);have hf13_2:=hfr13 2;(try simp only [show (k58).sz = 3 from rfl,Nat.mul_one,Nat.add_zero] at hf13_2);(try clear hcl13);(try clear hcc13);(try clear hfr13);(try clear hM13))|((with_reducible refine gate_store (t:=3) (p:=30) rfl ?_);refine store_event (t:=3) (p:=30) (v:=?vo_w14) (w1:=(w12.setCell ⟨go5,(x5_1 : Int).toNat * 3 + 2,none⟩ (.int .i64 (wrap64 ((wrap64 (x1_1 + 1)) + 1))))) ?hg ?ho ?hn ?hr ?_;(case ho=>rfl);(case hg=>rfl);(case hn=>rfl);(case hr=>first|(go_simp;done)|(go_simp;rfl));intro w14 hw;have hg : w12.grownBy w14 (some go5):=(by rw [hw];exact HP13.2);have hp_ : Kd.R k58 58 w14 w0.heap.size (fun k_=>(P0_ k_ ∨ w.heap.size ≤ k_)) (.slice (some ⟨go5,0,none⟩) x0_1.length co8) y382:=(by rw [hw,Ny382.out];exact HP13.1);clear HP13;have n0_:=zm (hp_);have n1_:=zm ((by rw [hw];exact zF (HB.out) GB5.out : Below w0.heap.size w0 w14));have n2_:=zm (Kept.of_grown (S:=(fun k_=>P0_ k_)) hg (by repeat (first|(with_reducible first|exact HK.out|apply Kept.alloc|apply Kept.drewN|apply Kept.drew)|exact HK.out)) (fun k_ e_=>(HO_0.out.1 k_ e_)));clear HO_0;clear HB;clear HK;have HO_0:=n0_;have HB:=n1_;have HK:=n2_;clear n0_ n1_ n2_;clear hg hw hp_))
     go_roundg k1
     case measure=>have:=HK1.out;omega
     case rel=>exact ⟨(y382),(wrap64 ((wrap64 ((wrap64 (x1_1 + 1)) + 1)) + 1)),(wrap64 (x5_1 + 1)),(by first|rfl|(simp;done)|(simp [*];done)),(by first|rfl|(simp;done)|(simp [*];done)),H',⟨by have:=HK1.out;omega⟩,⟨by (with_reducible repeat (first|apply zP|apply zQ|apply zR));exact HO_0.out⟩,⟨by repeat (first|(with_reducible first|exact HK.out|apply Kept.alloc|apply Kept.drewN|apply Kept.drew)|exact HK.out)⟩,⟨by repeat (first|(with_reducible first|exact HB.out|apply zA|apply zB|apply zC)|exact HB.out)⟩⟩
    ·rw [if_neg c4] at H;exact absurd H (by simp)
   ·rw [if_neg c3] at H;have c3b0 : decide (x5_1 < (x0_1.length : Int)) = false:=decide_eq_false c3;clear c3;simp only [Option.some.injEq,Prod.mk.injEq] at H
    obtain ⟨rfl,rfl⟩:=H;obtain ⟨Ao15,co15,eo15⟩:=zAb HO_0.out;subst eo15
    go_wp2;go_ret
    exact ⟨by first|rfl|(simp [errW_none,errW_some] <;> rfl)|(simp [*,errW_none,errW_some] <;> rfl),by (with_reducible repeat (first|apply zP|apply zQ|apply zR));exact HO_0.out,by repeat (first|(with_reducible first|exact HB.out|apply zA|apply zB|apply zC)|exact HB.out),by repeat (first|(with_reducible first|exact HK.out|apply Kept.alloc|apply Kept.drewN|apply Kept.drew)|exact HK.out)⟩

end Go.Proofs.Ytpdcghclcgbcfab.U
