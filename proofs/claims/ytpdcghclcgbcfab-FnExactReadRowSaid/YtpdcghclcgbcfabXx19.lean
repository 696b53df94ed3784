-- written by a program of this session (after the kit's print), not trusted: Lean checks it
import Derived.Test.YtpdcghclcgbcfabXx0
namespace Go.Proofs.Ytpdcghclcgbcfab.X
open Go.RowKit Go.Proofs.YtpdcghclcgbcfabW.PrintWords Go.Proofs.YtpdcghclcgbcfabW.PrintLast Go.Proofs.YtpdcghclcgbcfabW.PrintMore
open Go.Proofs.YtpdcghclcgbcfabW.PrintWords renaming below_alloc → zA, below_drew1 → zC, below_set → zF, below_step → zK, blk_cell → zD, box_event → zN, gate_dst → zM, pw_below_drewN → zB
open Go.Proofs.YtpdcghclcgbcfabW.PrintWords.Kd renaming R_alloc → zP, R_below → zHb, R_drew → zR, R_drewN → zQ, R_mono → zS, R_slice → zAb, S_alloc → zDb, S_drew → zFb, S_drewN → zEb
open Go.Proofs.YtpdcghclcgbcfabW.PrintWords.Aside0 renaming mk → zm
attribute [local go_sem] max2_int min2_int max_two min_two max_three min_three max_four min_four   -- for this text's walks alone
set_option linter.unusedVariables false
set_option linter.unusedSimpArgs false

/-! ### laws_markIntS: function 39 -/
def laws_markIntS.l0 : Nat→List Int→Int→Int→Option (Int × List Int)
 | 0,_,_,_=>none
 | k + 1,x0,x1,x5=>if x5 < (x0.length : Int) then (if 0 ≤ x5 then (laws_markIntS.l0 k (x0.set (x5 : Int).toNat x1) (wrap64 (x1 + 1)) (wrap64 (x5 + 1))) else (none)) else (some (x1,x0))
def laws_markIntS.f (k : Nat) (l0 : List Int) (a1 : Int) : Option (Int × List Int):=laws_markIntS.l0 k l0 a1 0
theorem laws_markIntS.mono_l : ∀ k,(∀ y0 y1 y2,LeO (laws_markIntS.l0 k y0 y1 y2) (laws_markIntS.l0 (k + 1) y0 y1 y2))
 | 0=>fun _ _ _ r h=>by simp [laws_markIntS.l0] at h
 | k + 1=>by
  have ih0:=laws_markIntS.mono_l k
  ·intro y0 y1 y2
   unfold laws_markIntS.l0
   repeat' first
   | (with_reducible exact ih0 _ _ _)
   | (with_reducible exact LeO.refl _)
   | (with_reducible exact LeO.none _)
   | (with_reducible refine LeO.ite ?_ ?_)
   | (with_reducible refine LeO.bind ?_ (fun _=>?_))
   | exact ih0 _ _ _
   | exact LeO.none _
   | refine LeO.ite ?_ ?_
   | refine LeO.bind ?_ (fun _=>?_)
theorem laws_markIntS.mono : ∀ a0 a1 k,LeO (laws_markIntS.f k a0 a1) (laws_markIntS.f (k + 1) a0 a1):=by
 intro a0 a1 k
 have ih0:=laws_markIntS.mono_l k;unfold laws_markIntS.f
 repeat' first
   | (with_reducible exact ih0 _ _ _)
   | (with_reducible exact LeO.refl _)
   | (with_reducible exact LeO.none _)
   | (with_reducible refine LeO.ite ?_ ?_)
   | (with_reducible refine LeO.bind ?_ (fun _=>?_))
   | exact ih0 _ _ _
   | exact LeO.none _
   | refine LeO.ite ?_ ?_
   | refine LeO.bind ?_ (fun _=>?_)
set_option maxHeartbeats 8000000 in
set_option maxRecDepth 100000 in
theorem laws_markIntS.calls (k : Nat) (P0_ : Nat→Prop) (u9000_ : Value) (l0 : List Int) (a1 : Int) (r1 : Int) (r2 : List Int) (w0 w : World) (hB : Below w0.heap.size w0 w) (ho0 : Kd.R (Kd.int .i64) 3 w w0.heap.size P0_ u9000_ l0) (h : laws_markIntS.f k l0 a1 = some (r1,r2)) :
  Calls Try.prog 39 #[u9000_,.int .i64 a1] w fun e w'=>e = .returned (.int .i64 r1)∧Kd.R (Kd.int .i64) 3 w' w0.heap.size (fun k_=>(P0_ k_ ∨ w.heap.size ≤ k_)) u9000_ r2∧Below w0.heap.size w0 w'∧Kept w w' (fun k_=>P0_ k_):=by
 have HO0:=zm (show Kd.R (Kd.int .i64) 3 w w0.heap.size (fun k_=>(P0_ k_ ∨ w.heap.size ≤ k_)) u9000_ l0 from zS ho0 (fun k_ hk=>(.inl hk)))
 have HK:=zm (Kept.refl w (fun k_=>P0_ k_))
 have HW0:=zm hB.size;have HB:=zm hB;clear hB;have H : (laws_markIntS.l0 k l0 a1 0) = some (r1,r2):=h;clear h;have H':=zm H;clear H;go_enter Try.func39,Try.ntmps39
 go_wp2;go_loopg [1,5] k (fun kq v1 v5 w'=>∃ (x0_1 : List Int) (x1_1 : Int) (x5_1 : Int),v1 = .int .i64 x1_1∧v5 = .int .i64 x5_1∧Aside0 (laws_markIntS.l0 kq x0_1 x1_1 x5_1 = some (r1,r2))∧Aside0 (kq ≤ k)∧Aside0 (Kd.R (Kd.int .i64) 3 w' w0.heap.size (fun k_=>(P0_ k_ ∨ w.heap.size ≤ k_)) u9000_ x0_1)∧Aside0 (Kept w w' (fun k_=>P0_ k_))∧Aside0 (Below w0.heap.size w0 w'))
 case atStart=>exact ⟨(l0),(a1),(0),(by first|rfl|(simp;done)|(simp [*];done)),(by first|rfl|(simp;done)|(simp [*];done)),H',⟨Nat.le_refl _⟩,⟨by (with_reducible repeat (first|apply zP|apply zQ|apply zR));exact HO0.out⟩,⟨by repeat (first|(with_reducible first|exact HK.out|apply Kept.alloc|apply Kept.drewN|apply Kept.drew)|exact HK.out)⟩,⟨by repeat (first|(with_reducible first|exact HB.out|apply zA|apply zB|apply zC)|exact HB.out)⟩⟩
 case round =>
  clear H';(try clear p2);obtain ⟨x0_1,x1_1,x5_1,rfl,rfl,HA,HK1,HO_0,HK,HB⟩:=hrel;cases gk with
  | zero=>exact absurd HA.out (by simp [laws_markIntS.l0])
  | succ k1 =>
   have H:=HA.out;clear HA;simp only [laws_markIntS.l0] at H
   by_cases c3 : x5_1 < (x0_1.length : Int)
   ·rw [if_pos c3] at H;have c3b0 : decide (x5_1 < (x0_1.length : Int)) = true:=decide_eq_true c3;clear c3;by_cases c4 : 0 ≤ x5_1
    ·rw [if_pos c4] at H;have c4b0 : decide (0 ≤ x5_1) = true:=decide_eq_true c4;clear c4;obtain ⟨y288,hy288⟩ : ∃ y_ : List Int,y_ = (x0_1.set (x5_1 : Int).toNat x1_1):=⟨_,rfl⟩;replace H : (laws_markIntS.l0 k1 y288 (wrap64 (x1_1 + 1)) (wrap64 (x5_1 + 1))) = some (r1,r2):=by first|(rw [hy288];with_reducible exact H)|(have H2_:=(Option.bind_some _ _).symm.trans H;rw [hy288];with_reducible exact H2_)|(have H2_:=(Option.bind_some _ _).symm.trans H;with_reducible exact H2_)|with_reducible exact H|(rw [hy288];exact H)|exact H
     have Ny288:=zm hy288;clear hy288;have H':=zm H;clear H;obtain ⟨Ao6,co6,eo6⟩:=zAb HO_0.out;subst eo6
     have p5 : 0 ≤ (x5_1 : Int):=of_decide_eq_true (by first|(with_reducible assumption)|assumption)
     have q5 : (x5_1 : Int) < ((x0_1.length : Int) : Int):=of_decide_eq_true (by first|(with_reducible assumption)|assumption)
     obtain ⟨go5,co5,eo5,gb5,gl5,cl5,HG5⟩:=Kd.R_form HO_0.out (by omega)
     (first|cases eo5|(injection eo5 with ea_ en_ ec_;(first|subst ea_|(injection ea_ with ea_;subst ea_));subst ec_;clear en_))
     have GB5:=zm gb5;have GG5:=zm HG5;clear gb5 gl5 HG5;have HMgo5:=zm (show (P0_ go5 ∨ w.heap.size ≤ go5) from (HO_0.out.1 _ rfl));obtain ⟨hx5_0,hf5_0⟩:=Kd.R_celln 0 HO_0.out (x5_1 : Int) p5 q5;replace p5:=eq_true p5;replace q5:=eq_true q5;have HP7:=Kd.R_putg HO_0.out (x5_1 : Int) x1_1;go_wp2_with (first|((with_reducible refine gate_store (t:=3) (p:=15) rfl ?_);refine store_event (t:=3) (p:=15) (v:=?vo_w8) (w1:=(wr.setCell ⟨go5,(x5_1 : Int).toNat,none⟩ (.int .i64 x1_1))) ?hg ?ho ?hn ?hr ?_;(case ho=>rfl);(case hg=>rfl);(case hn=>rfl);(case hr=>first|(go_simp;done)|(go_simp;rfl));intro w8 hw;have hg : wr.grownBy w8 (some go5):=(by rw [hw];exact HP7.2);have hp_ : Kd.R (Kd.int .i64) 3 w8 w0.heap.size (fun k_=>(P0_ k_ ∨ w.heap.size ≤ k_)) (.slice (some ⟨go5,0,none⟩) x0_1.length co6) y288:=(by rw [hw,Ny288.out];exact HP7.1);clear HP7;have n0_:=zm (hp_);have n1_:=zm ((by rw [hw];exact zF (HB.out) GB5.out : Below w0.heap.size w0 w8));have n2_:=zm (Kept.of_grown (S:=(fun k_=>P0_ k_)) hg (by repeat (first|(with_reducible first|exact HK.out|apply Kept.alloc|apply Kept.drewN|apply Kept.drew)|exact HK.out)) (fun k_ e_=>(HO_0.out.1 k_ e_)));clear HO_0;clear HB;clear HK;have HO_0:=n0_;have HB:=n1_;have HK:=n2_;clear n0_ n1_ n2_;clear hg hw hp_))
     go_roundg k1
     case measure=>have:=HK1.out;omega
     case rel=>exact ⟨(y288),(wrap64 (x1_1 + 1)),(wrap64 (x5_1 + 1)),(by first|rfl|(simp;done)|(simp [*];done)),(by first|rfl|(simp;done)|(simp [*];done)),H',⟨by have:=HK1.out;omega⟩,⟨by (with_reducible repeat (first|apply zP|apply zQ|apply zR));exact HO_0.out⟩,⟨by repeat (first|(with_reducible first|exact HK.out|apply Kept.alloc|apply Kept.drewN|apply Kept.drew)|exact HK.out)⟩,⟨by repeat (first|(with_reducible first|exact HB.out|apply zA|apply zB|apply zC)|exact HB.out)⟩⟩
    ·rw [if_neg c4] at H;exact absurd H (by simp)
   ·rw [if_neg c3] at H;have c3b0 : decide (x5_1 < (x0_1.length : Int)) = false:=decide_eq_false c3;clear c3;simp only [Option.some.injEq,Prod.mk.injEq] at H
    obtain ⟨rfl,rfl⟩:=H;obtain ⟨Ao9,co9,eo9⟩:=zAb HO_0.out;subst eo9
    go_wp2;go_ret
    exact ⟨by first|rfl|(simp [errW_none,errW_some] <;> rfl)|(simp [*,errW_none,errW_some] <;> rfl),by (with_reducible repeat (first|apply zP|apply zQ|apply zR));exact HO_0.out,by repeat (first|(with_reducible first|exact HB.out|apply zA|apply zB|apply zC)|exact HB.out),by repeat (first|(with_reducible first|exact HK.out|apply Kept.alloc|apply Kept.drewN|apply Kept.drew)|exact HK.out)⟩

/-! ### laws_markBoolS: function 40 -/
def laws_markBoolS.l0 : Nat→List Bool→Int→Int→Option (Int × List Bool)
 | 0,_,_,_=>none
 | k + 1,x0,x1,x5=>if x5 < (x0.length : Int) then (if 0 ≤ x5 then (laws_markBoolS.l0 k (x0.set (x5 : Int).toNat ((Int.tmod x1 3) == 0)) (wrap64 (x1 + 1)) (wrap64 (x5 + 1))) else (none)) else (some (x1,x0))
def laws_markBoolS.f (k : Nat) (l0 : List Bool) (a1 : Int) : Option (Int × List Bool):=laws_markBoolS.l0 k l0 a1 0
theorem laws_markBoolS.mono_l : ∀ k,(∀ y0 y1 y2,LeO (laws_markBoolS.l0 k y0 y1 y2) (laws_markBoolS.l0 (k + 1) y0 y1 y2))
 | 0=>fun _ _ _ r h=>by simp [laws_markBoolS.l0] at h
 | k + 1=>by
  have ih0:=laws_markBoolS.mono_l k
  ·intro y0 y1 y2
   unfold laws_markBoolS.l0
   repeat' first
   | (with_reducible exact ih0 _ _ _)
   | (with_reducible exact LeO.refl _)
   | (with_reducible exact LeO.none _)
   | (with_reducible refine LeO.ite ?_ ?_)
   | (with_reducible refine LeO.bind ?_ (fun _=>?_))
   | exact ih0 _ _ _
   | exact LeO.none _
   | refine LeO.ite ?_ ?_
   | refine LeO.bind ?_ (fun _=>?_)
theorem laws_markBoolS.mono : ∀ a0 a1 k,LeO (laws_markBoolS.f k a0 a1) (laws_markBoolS.f (k + 1) a0 a1):=by
 intro a0 a1 k
 have ih0:=laws_markBoolS.mono_l k;unfold laws_markBoolS.f
 repeat' first
   | (with_reducible exact ih0 _ _ _)
   | (with_reducible exact LeO.refl _)
   | (with_reducible exact LeO.none _)
   | (with_reducible refine LeO.ite ?_ ?_)
   | (with_reducible refine LeO.bind ?_ (fun _=>?_))
   | exact ih0 _ _ _
   | exact LeO.none _
   | refine LeO.ite ?_ ?_
   | refine LeO.bind ?_ (fun _=>?_)
set_option maxHeartbeats 8000000 in
set_option maxRecDepth 100000 in
theorem laws_markBoolS.calls (k : Nat) (P0_ : Nat→Prop) (u9000_ : Value) (l0 : List Bool) (a1 : Int) (r1 : Int) (r2 : List Bool) (w0 w : World) (hB : Below w0.heap.size w0 w) (ho0 : Kd.R Kd.bool 4 w w0.heap.size P0_ u9000_ l0) (h : laws_markBoolS.f k l0 a1 = some (r1,r2)) :
  Calls Try.prog 40 #[u9000_,.int .i64 a1] w fun e w'=>e = .returned (.int .i64 r1)∧Kd.R Kd.bool 4 w' w0.heap.size (fun k_=>(P0_ k_ ∨ w.heap.size ≤ k_)) u9000_ r2∧Below w0.heap.size w0 w'∧Kept w w' (fun k_=>P0_ k_):=by
 have HO0:=zm (show Kd.R Kd.bool 4 w w0.heap.size (fun k_=>(P0_ k_ ∨ w.heap.size ≤ k_)) u9000_ l0 from zS ho0 (fun k_ hk=>(.inl hk)))
 have HK:=zm (Kept.refl w (fun k_=>P0_ k_))
 have HW0:=zm hB.size;have HB:=zm hB;clear hB;have H : (laws_markBoolS.l0 k l0 a1 0) = some (r1,r2):=h;clear h;have H':=zm H;clear H;go_enter Try.func40,Try.ntmps40
 go_wp2;go_loopg [1,5] k (fun kq v1 v5 w'=>∃ (x0_1 : List Bool) (x1_1 : Int) (x5_1 : Int),v1 = .int .i64 x1_1∧v5 = .int .i64 x5_1∧Aside0 (laws_markBoolS.l0 kq x0_1 x1_1 x5_1 = some (r1,r2))∧Aside0 (kq ≤ k)∧Aside0 (Kd.R Kd.bool 4 w' w0.heap.size (fun k_=>(P0_ k_ ∨ w.heap.size ≤ k_)) u9000_ x0_1)∧Aside0 (Kept w w' (fun k_=>P0_ k_))∧Aside0 (Below w0.heap.size w0 w'))
 case atStart=>exact ⟨(l0),(a1),(0),(by first|rfl|(simp;done)|(simp [*];done)),(by first|rfl|(simp;done)|(simp [*];done)),H',⟨Nat.le_refl _⟩,⟨by (with_reducible repeat (first|apply zP|apply zQ|apply zR));exact HO0.out⟩,⟨by repeat (first|(with_reducible first|exact HK.out|apply Kept.alloc|apply Kept.drewN|apply Kept.drew)|exact HK.out)⟩,⟨by repeat (first|(with_reducible first|exact HB.out|apply zA|apply zB|apply zC)|exact HB.out)⟩⟩
 case round =>
  clear H';(try clear p2);obtain ⟨x0_1,x1_1,x5_1,rfl,rfl,HA,HK1,HO_0,HK,HB⟩:=hrel;cases gk with
  | zero=>exact absurd HA.out (by simp [laws_markBoolS.l0])
  | succ k1 =>
   have H:=HA.out;clear HA;simp only [laws_markBoolS.l0] at H
   by_cases c3 : x5_1 < (x0_1.length : Int)
   ·rw [if_pos c3] at H;have c3b0 : decide (x5_1 < (x0_1.length : Int)) = true:=decide_eq_true c3;clear c3;by_cases c4 : 0 ≤ x5_1
    ·rw [if_pos c4] at H;have c4b0 : decide (0 ≤ x5_1) = true:=decide_eq_true c4;clear c4;obtain ⟨y289,hy289⟩ : ∃ y_ : List Bool,y_ = (x0_1.set (x5_1 : Int).toNat ((Int.tmod x1_1 3) == 0)):=⟨_,rfl⟩;replace H : (laws_markBoolS.l0 k1 y289 (wrap64 (x1_1 + 1)) (wrap64 (x5_1 + 1))) = some (r1,r2):=by first|(rw [hy289];with_reducible exact H)|(have H2_:=(Option.bind_some _ _).symm.trans H;rw [hy289];with_reducible exact H2_)|(have H2_:=(Option.bind_some _ _).symm.trans H;with_reducible exact H2_)|with_reducible exact H|(rw [hy289];exact H)|exact H
     have Ny289:=zm hy289;clear hy289;have H':=zm H;clear H;obtain ⟨Ao6,co6,eo6⟩:=zAb HO_0.out;subst eo6
     have p5 : 0 ≤ (x5_1 : Int):=of_decide_eq_true (by first|(with_reducible assumption)|assumption)
     have q5 : (x5_1 : Int) < ((x0_1.length : Int) : Int):=of_decide_eq_true (by first|(with_reducible assumption)|assumption)
     obtain ⟨go5,co5,eo5,gb5,gl5,cl5,HG5⟩:=Kd.R_form HO_0.out (by omega)
     (first|cases eo5|(injection eo5 with ea_ en_ ec_;(first|subst ea_|(injection ea_ with ea_;subst ea_));subst ec_;clear en_))
     have GB5:=zm gb5;have GG5:=zm HG5;clear gb5 gl5 HG5;have HMgo5:=zm (show (P0_ go5 ∨ w.heap.size ≤ go5) from (HO_0.out.1 _ rfl));obtain ⟨hx5_0,hf5_0⟩:=Kd.R_celln false HO_0.out (x5_1 : Int) p5 q5;replace p5:=eq_true p5;replace q5:=eq_true q5;have HP7:=Kd.R_putg HO_0.out (x5_1 : Int) ((Int.tmod x1_1 3) == 0);go_wp2_with (first|((with_reducible refine gate_store (t:=4) (p:=17) rfl ?_);refine store_event (t:=4) (p:=17) (v:=?vo_w8) (w1:=(wr.setCell ⟨go5,(x5_1 : Int).toNat,none⟩ (.bool ((Int.tmod x1_1 3) == 0)))) ?hg ?ho ?hn ?hr ?_;(case ho=>rfl);(case hg=>rfl);(case hn=>rfl);(case hr=>first|(go_simp;done)|(go_simp;rfl));intro w8 hw;have hg : wr.grownBy w8 (some go5):=(by rw [hw];exact HP7.2);have hp_ : Kd.R Kd.bool 4 w8 w0.heap.size (fun k_=>(P0_ k_ ∨ w.heap.size ≤ k_)) (.slice (some ⟨go5,0,none⟩) x0_1.length co6) y289:=(by rw [hw,Ny289.out];exact HP7.1);clear HP7;have n0_:=zm (hp_);have n1_:=zm ((by rw [hw];exact zF (HB.out) GB5.out : Below w0.heap.size w0 w8));have n2_:=zm (Kept.of_grown (S:=(fun k_=>P0_ k_)) hg (by repeat (first|(with_reducible first|exact HK.out|apply Kept.alloc|apply Kept.drewN|apply Kept.drew)|exact HK.out)) (fun k_ e_=>(HO_0.out.1 k_ e_)));clear HO_0;clear HB;clear HK;have HO_0:=n0_;have HB:=n1_;have HK:=n2_;clear n0_ n1_ n2_;clear hg hw hp_))
     go_roundg k1
     case measure=>have:=HK1.out;omega
     case rel=>exact ⟨(y289),(wrap64 (x1_1 + 1)),(wrap64 (x5_1 + 1)),(by first|rfl|(simp;done)|(simp [*];done)),(by first|rfl|(simp;done)|(simp [*];done)),H',⟨by have:=HK1.out;omega⟩,⟨by (with_reducible repeat (first|apply zP|apply zQ|apply zR));exact HO_0.out⟩,⟨by repeat (first|(with_reducible first|exact HK.out|apply Kept.alloc|apply Kept.drewN|apply Kept.drew)|exact HK.out)⟩,⟨by repeat (first|(with_reducible first|exact HB.out|apply zA|apply zB|apply zC)|exact HB.out)⟩⟩
    ·rw [if_neg c4] at H;exact absurd H (by simp)
   ·rw [if_neg c3] at H;have c3b0 : decide (x5_1 < (x0_1.length : Int)) = false:=decide_eq_false c3;clear c3;simp only [Option.some.injEq,Prod.mk.injEq] at H
    obtain ⟨rfl,rfl⟩:=H;obtain ⟨Ao9,co9,eo9⟩:=zAb HO_0.out;subst eo9
    go_wp2;go_ret
    exact ⟨by first|rfl|(simp [errW_none,errW_some] <;> rfl)|(simp [*,errW_none,errW_some] <;> rfl),by (with_reducible repeat (first|apply zP|apply zQ|apply zR));exact HO_0.out,by repeat (first|(with_reducible first|exact HB.out|apply zA|apply zB|apply zC)|exact HB.out),by repeat (first|(with_reducible first|exact HK.out|apply Kept.alloc|apply Kept.drewN|apply Kept.drew)|exact HK.out)⟩

/-! ### laws_markBoolSS: function 41 -/
def laws_markBoolSS.l0 : Nat→List (List Bool)→Int→Int→Option (Int × List (List Bool))
 | 0,_,_,_=>none
 | k + 1,x0,x1,x5=>if x5 < (x0.length : Int) then (if 0 ≤ x5 then ((laws_markBoolS.f k (rd_L1 x0 x5) x1).bind fun b=>laws_markBoolSS.l0 k (x0.set x5.toNat b.2) b.1 (wrap64 (x5 + 1))) else (none)) else (some (x1,x0))
def laws_markBoolSS.f (k : Nat) (l0 : List (List Bool)) (a1 : Int) : Option (Int × List (List Bool)):=laws_markBoolSS.l0 k l0 a1 0
theorem laws_markBoolSS.mono_l : ∀ k,(∀ y0 y1 y2,LeO (laws_markBoolSS.l0 k y0 y1 y2) (laws_markBoolSS.l0 (k + 1) y0 y1 y2))
 | 0=>fun _ _ _ r h=>by simp [laws_markBoolSS.l0] at h
 | k + 1=>by
  have ih0:=laws_markBoolSS.mono_l k
  ·intro y0 y1 y2
   unfold laws_markBoolSS.l0
   repeat' first
   | (with_reducible exact ih0 _ _ _)
   | (with_reducible exact laws_markBoolS.mono _ _ _)
   | (with_reducible exact LeO.refl _)
   | (with_reducible exact LeO.none _)
   | (with_reducible refine LeO.ite ?_ ?_)
   | (with_reducible refine LeO.bind ?_ (fun _=>?_))
   | exact ih0 _ _ _
   | exact laws_markBoolS.mono _ _ _
   | exact LeO.none _
   | refine LeO.ite ?_ ?_
   | refine LeO.bind ?_ (fun _=>?_)
theorem laws_markBoolSS.mono : ∀ a0 a1 k,LeO (laws_markBoolSS.f k a0 a1) (laws_markBoolSS.f (k + 1) a0 a1):=by
 intro a0 a1 k
 have ih0:=laws_markBoolSS.mono_l k;unfold laws_markBoolSS.f
 repeat' first
   | (with_reducible exact ih0 _ _ _)
   | (with_reducible exact laws_markBoolS.mono _ _ _)
   | (with_reducible exact LeO.refl _)
   | (with_reducible exact LeO.none _)
   | (with_reducible refine LeO.ite ?_ ?_)
   | (with_reducible refine LeO.bind ?_ (fun _=>?_))
   | exact ih0 _ _ _
   | exact laws_markBoolS.mono _ _ _
   | exact LeO.none _
   | refine LeO.ite ?_ ?_
   | refine LeO.bind ?_ (fun _=>?_)
/-- A row of bools: its own block alone may be told. -/
theorem bool_ok {e : Nat} {w : World} {base : Nat} {ok ok' : Nat→Prop} {v : Value} {xs : List Bool} (h : Kd.bool.R e w base ok v xs) (h' : ∀ k,v.ownBlock = some k→ok' k) : Kd.bool.R e w base ok' v xs:=⟨h',h.2⟩
set_option maxHeartbeats 8000000 in
set_option maxRecDepth 100000 in
theorem laws_markBoolSS.calls (k : Nat) (P0_ : Nat→Prop) (u : Value) (l0 : List (List Bool)) (a1 : Int) (r : Int) (r2 : List (List Bool)) (w0 w : World) (hB : Below w0.heap.size w0 w) (ho0 : Kd.S (Kd.slice 4 Kd.bool) 23 w w0.heap.size P0_ u l0) (h : laws_markBoolSS.f k l0 a1 = some (r,r2)) :
  Calls Try.prog 41 #[u,.int .i64 a1] w fun e w'=>e = .returned (.int .i64 r)∧Kd.S (Kd.slice 4 Kd.bool) 23 w' w0.heap.size P0_ u r2∧Below w0.heap.size w0 w'∧Kept w w' P0_:=by
 obtain ⟨A,c,rfl⟩:=Kd.S_slice ho0;have HS:=zm ho0;have HK:=zm (Kept.refl w P0_);have HB:=zm hB;clear hB ho0;have H':=zm (show laws_markBoolSS.l0 k l0 a1 0 = some (r,r2) from h);clear h;go_enter Try.func41,Try.ntmps41
 go_wp2;go_loopg [1,5] k (fun kq v1 v5 w'=>∃ (x0 : List (List Bool)) (x1 x5 : Int),v1 = .int .i64 x1∧v5 = .int .i64 x5∧Aside0 (laws_markBoolSS.l0 kq x0 x1 x5 = some (r,r2))∧Aside0 (kq ≤ k)∧Aside0 (x0.length = l0.length)∧Aside0 (Kd.S (Kd.slice 4 Kd.bool) 23 w' w0.heap.size P0_ (.slice A l0.length c) x0)∧Aside0 (Kept w w' P0_)∧Aside0 (Below w0.heap.size w0 w'))
 case atStart=>exact ⟨l0,a1,0,(by first|rfl|(simp;done)),(by first|rfl|(simp;done)),H',⟨Nat.le_refl _⟩,⟨rfl⟩,⟨by (with_reducible repeat (first|apply zDb|apply zEb|apply zFb));exact HS.out⟩,⟨by repeat (first|(with_reducible first|exact HK.out|apply Kept.alloc|apply Kept.drewN|apply Kept.drew)|exact HK.out)⟩,⟨by repeat (first|(with_reducible first|exact HB.out|apply zA|apply zB|apply zC)|exact HB.out)⟩⟩
 case round =>
  clear H';obtain ⟨x0,x1,x5,rfl,rfl,HA,HK1,HL,HS,HK,HB⟩:=hrel;cases gk with
  | zero=>exact absurd HA.out (by simp [laws_markBoolSS.l0])
  | succ k1 =>
   have H:=HA.out;clear HA;simp only [laws_markBoolSS.l0] at H
   by_cases c3 : x5 < (x0.length : Int)
   ·rw [if_pos c3] at H;have c3l : x5 < (l0.length : Int):=by have:=HL.out;omega
    have c3b : decide (x5 < (l0.length : Int)) = true:=decide_eq_true c3l;by_cases c4 : 0 ≤ x5
    ·rw [if_pos c4] at H;have c4b : decide (0 ≤ x5) = true:=decide_eq_true c4;replace H:=Option.bind_eq_some_iff.mp H;obtain ⟨⟨b1,b2⟩,A8,H⟩:=H;have H':=zm (show laws_markBoolSS.l0 k1 (x0.set x5.toNat b2) b1 (wrap64 (x5 + 1)) = some (r,r2) from H);have A9:=zm A8;clear H A8;obtain ⟨go,co,eo,gb,gl,cl,HG⟩:=Kd.S_form HS.out (by omega)
     injection eo with ea en ec
     subst ea
     subst ec
     clear en;obtain ⟨oki,ce,hcl,hM,hcc,hfr,hoki,hH⟩:=Kd.S_elem HS.out [] x5 c4 c3l;obtain ⟨ve,rfl,hR⟩:=hM;have hx:=hcc 0 _ rfl;simp only [show (Kd.slice 4 Kd.bool).sz = 1 from rfl,Nat.mul_one,Nat.add_zero] at hx
     have p5:=eq_true c4;have q5:=eq_true c3l;have HR:=zm hR;have HH:=zm hH;have HO:=zm hoki;clear hR hH hoki hcl hcc hfr gb gl HG c3l c4;go_wp2_with (first|((with_reducible refine gate_callee (f:=40) rfl ?_);refine goesL_ (some 17) rfl rfl Try.func40 (by kernel_rfl) rfl #[ve,.int .i64 x1] rfl (by (try simp only [List.map_toArray,List.map_cons,List.map_nil]);first|done|rfl) ?_;(with_reducible refine (laws_markBoolS.calls k1 oki ve (rd_L1 x0 x5) x1 b1 b2 w0 _ ?side1 ?side2 A9.out).mono ?_);(case side1=>repeat (first|(with_reducible first|exact HB.out|apply zA|apply zB|apply zC)|exact HB.out));(case side2=>(with_reducible repeat (first|apply zP|apply zQ|apply zR));exact HR.out);rintro e w5 ⟨rfl,hR2,hB2,hK2⟩;refine ⟨_,rfl,?_⟩;have n0_:=zm hB2;have n1_:=zm (Kept.then_ HK.out hK2 (fun k_ hk_=>.inl (HO.out k_ hk_).1));have n2_:=zm (Kd.H_back (x':=b2) (Kd.H_kept HH.out hK2 (fun k_ _ hn_ hs_=>hn_ hs_)) ⟨ve,rfl,bool_ok hR2 HR.out.1⟩ (fun _ h_=>h_));clear HB HK HS HH HR HO hx;have HB:=n0_;have HK:=n1_;have HS:=n2_;clear n0_ n1_ n2_ hR2 hB2 hK2))
     go_roundg k1
     case measure=>have:=HK1.out;omega
     case rel=>exact ⟨x0.set x5.toNat b2,b1,wrap64 (x5 + 1),(by first|rfl|(simp;done)),(by first|rfl|(simp;done)),H',⟨by have:=HK1.out;omega⟩,⟨by rw [List.length_set];exact HL.out⟩,⟨by (with_reducible repeat (first|apply zDb|apply zEb|apply zFb));exact HS.out⟩,⟨by repeat (first|(with_reducible first|exact HK.out|apply Kept.alloc|apply Kept.drewN|apply Kept.drew)|exact HK.out)⟩,⟨by repeat (first|(with_reducible first|exact HB.out|apply zA|apply zB|apply zC)|exact HB.out)⟩⟩
    ·rw [if_neg c4] at H;exact absurd H (by simp)
   ·rw [if_neg c3] at H;have c3b : decide (x5 < (l0.length : Int)) = false:=decide_eq_false (by have:=HL.out;omega)
    clear c3;simp only [Option.some.injEq,Prod.mk.injEq] at H
    obtain ⟨rfl,rfl⟩:=H;go_wp2;go_ret
    exact ⟨by first|rfl|(simp;done)|(simp [*];done),by (with_reducible repeat (first|apply zDb|apply zEb|apply zFb));exact HS.out,by repeat (first|(with_reducible first|exact HB.out|apply zA|apply zB|apply zC)|exact HB.out),by repeat (first|(with_reducible first|exact HK.out|apply Kept.alloc|apply Kept.drewN|apply Kept.drew)|exact HK.out)⟩

/-! ### laws_markRow: function 12 -/
def laws_markRow.f (k : Nat) (l0 l1 : List Int) (l2 : List Bool) (l3 : List (List Bool)) (a1 : Int) : Option (Int × List Int × List Int × List Bool × (List (List Bool))):=(laws_markIntS.f k l0 a1).bind fun b0=>((laws_markIntS.f k l1 b0.1).bind fun b1=>((laws_markBoolS.f k l2 b1.1).bind fun b2=>(laws_markBoolSS.f k l3 b2.1).bind fun b3=>some (b3.1,b0.2,b1.2,b2.2,b3.2)))
theorem laws_markRow.mono : ∀ a0 a1 a2 a3 a4 k,LeO (laws_markRow.f k a0 a1 a2 a3 a4) (laws_markRow.f (k + 1) a0 a1 a2 a3 a4):=by
 intro a0 a1 a2 a3 a4 k
 unfold laws_markRow.f
 repeat' first
   | (with_reducible exact laws_markIntS.mono _ _ _)
   | (with_reducible exact laws_markBoolS.mono _ _ _)
   | (with_reducible exact laws_markBoolSS.mono _ _ _)
   | (with_reducible exact LeO.refl _)
   | (with_reducible exact LeO.none _)
   | (with_reducible refine LeO.ite ?_ ?_)
   | (with_reducible refine LeO.bind ?_ (fun _=>?_))
   | exact laws_markIntS.mono _ _ _
   | exact laws_markBoolS.mono _ _ _
   | exact laws_markBoolSS.mono _ _ _
   | exact LeO.none _
   | refine LeO.ite ?_ ?_
   | refine LeO.bind ?_ (fun _=>?_)
set_option maxHeartbeats 8000000 in
set_option maxRecDepth 100000 in
theorem laws_markRow.calls (k : Nat) (P0_ P1_ P2_ P3_ : Nat→Prop) (u0 u1 u2 u3 : Value) (l0 l1 : List Int) (l2 : List Bool) (l3 : List (List Bool)) (a1 : Int) (r : Int) (r0_ r1_ : List Int) (r2_ : List Bool) (r3_ : List (List Bool)) (w0 w : World) (hB : Below w0.heap.size w0 w)
  (ho0 : Kd.R (Kd.int .i64) 3 w w0.heap.size P0_ u0 l0) (ho1 : Kd.R (Kd.int .i64) 3 w w0.heap.size P1_ u1 l1) (ho2 : Kd.R Kd.bool 4 w w0.heap.size P2_ u2 l2) (ho3 : Kd.S (Kd.slice 4 Kd.bool) 23 w w0.heap.size P3_ u3 l3)
  (h01 : ∀ k,P0_ k→¬ P1_ k) (h02 : ∀ k,P0_ k→¬ P2_ k) (h03 : ∀ k,P0_ k→¬ P3_ k) (h12 : ∀ k,P1_ k→¬ P2_ k) (h13 : ∀ k,P1_ k→¬ P3_ k) (h23 : ∀ k,P2_ k→¬ P3_ k) (h : laws_markRow.f k l0 l1 l2 l3 a1 = some (r,r0_,r1_,r2_,r3_)) :
  Calls Try.prog 12 #[.agg #[u0,u1,u2,u3],.int .i64 a1] w fun e w'=>e = .returned (.int .i64 r)∧Kd.R (Kd.int .i64) 3 w' w0.heap.size P0_ u0 r0_∧Kd.R (Kd.int .i64) 3 w' w0.heap.size P1_ u1 r1_∧Kd.R Kd.bool 4 w' w0.heap.size P2_ u2 r2_∧Kd.S (Kd.slice 4 Kd.bool) 23 w' w0.heap.size P3_ u3 r3_∧Below w0.heap.size w0 w'∧Kept w w' (fun k=>P0_ k ∨ P1_ k ∨ P2_ k ∨ P3_ k):=by
 have hu30:=Try.underlying30;obtain ⟨A0,c0,rfl⟩:=zAb ho0;obtain ⟨A1,c1,rfl⟩:=zAb ho1;obtain ⟨A2,c2,rfl⟩:=zAb ho2;obtain ⟨A3,c3,rfl⟩:=Kd.S_slice ho3;have HO0:=zm (zS (Kd.R_bound ho0) (fun k hk=>(⟨hk.1,hk.2.2.1⟩ : P0_ k∧k < w.heap.size)))
 have HO1:=zm (zS (Kd.R_bound ho1) (fun k hk=>(⟨hk.1,hk.2.2.1⟩ : P1_ k∧k < w.heap.size)))
 have HO2:=zm (zS (Kd.R_bound ho2) (fun k hk=>(⟨hk.1,hk.2.2.1⟩ : P2_ k∧k < w.heap.size)))
 have HO3:=zm (Kd.S_mono (Kd.S_bound ho3) (fun k hk=>(⟨hk.1,hk.2.2.1⟩ : P3_ k∧k < w.heap.size)))
 have HK:=zm (Kept.refl w (fun k=>P0_ k ∨ P1_ k ∨ P2_ k ∨ P3_ k))
 have HB:=zm hB;clear hB ho0 ho1 ho2 ho3;have H : ((laws_markIntS.f k l0 a1).bind fun b0=>((laws_markIntS.f k l1 b0.1).bind fun b1=>((laws_markBoolS.f k l2 b1.1).bind fun b2=>(laws_markBoolSS.f k l3 b2.1).bind fun b3=>some (b3.1,b0.2,b1.2,b2.2,b3.2)))) = some (r,r0_,r1_,r2_,r3_):=h
 clear h;obtain ⟨⟨r0,q0⟩,E0,H⟩:=Option.bind_eq_some_iff.mp H;obtain ⟨⟨r1,q1⟩,E1,H⟩:=Option.bind_eq_some_iff.mp H;obtain ⟨⟨r2,q2⟩,E2,H⟩:=Option.bind_eq_some_iff.mp H;obtain ⟨⟨r3,q3⟩,E3,H⟩:=Option.bind_eq_some_iff.mp H;simp only [Option.some.injEq,Prod.mk.injEq] at H
 obtain ⟨rfl,rfl,rfl,rfl,rfl⟩:=H;have F0:=zm (show laws_markIntS.f k l0 a1 = some (r0,q0) from E0);have F1:=zm (show laws_markIntS.f k l1 r0 = some (r1,q1) from E1);have F2:=zm (show laws_markBoolS.f k l2 r1 = some (r2,q2) from E2);have F3:=zm (show laws_markBoolSS.f k l3 r2 = some (r3,q3) from E3);clear E0 E1 E2 E3;go_enter Try.func12,Try.ntmps12
 go_wp2_with (first
  | ((with_reducible refine zM (N:=2) rfl ?_);refine zN ?hg (N:=2) ?hd (cs:=#[.slice A0 l0.length c0,.slice A1 l1.length c1,.slice A2 l2.length c2,.slice A3 l3.length c3]) (t:=30) ?hr ?_;(case hd=>rfl);(case hg=>rfl);(case hr=>first|(go_simp;done)|(go_simp;rfl));intro gb hg w4 hbox hb;have n0_:=zm (zK HB.out hb);have n1_:=zm hbox;have HG:=zm (show w.heap.size ≤ gb from Nat.le_of_eq (by rw [hg]));have n2_:=zm (zHb HO0.out hb);have n3_:=zm (zHb HO1.out hb);have n4_:=zm (zHb HO2.out hb);have n5_:=zm (Kd.S_below HO3.out hb);have n6_:=zm (Kept.below HK.out hb);clear HB HO0 HO1 HO2 HO3 HK hg hbox hb;have HB:=n0_;have HBK:=n1_;have HO0:=n2_;have HO1:=n3_;have HO2:=n4_;have HO3:=n5_;have HK:=n6_;clear n0_ n1_ n2_ n3_ n4_ n5_ n6_;have hz0 : w4.cell? ⟨gb,0,none⟩ = some (.slice A0 l0.length c0):=(zD HBK.out 0).trans rfl)
  | ((with_reducible refine gate_callee (f:=39) rfl ?_);refine goesL_ (some 8) rfl rfl Try.func39 (by kernel_rfl) rfl #[.slice A0 l0.length c0,.int .i64 a1] rfl (by (try simp only [List.map_toArray,List.map_cons,List.map_nil]);first|done|rfl) ?_;(with_reducible refine (laws_markIntS.calls k (fun k=>P0_ k∧k < w.heap.size) (.slice A0 l0.length c0) l0 a1 r0 q0 w0 _ ?side1 ?side2 F0.out).mono ?_);(case side1=>exact HB.out);(case side2=>exact HO0.out);rintro e w5 ⟨rfl,hR2,hB2,hK2⟩;refine ⟨_,rfl,?_⟩;have n0_:=zm hB2;have n1_:=zm (blk_kept HBK.out hK2 (fun hs=>absurd hs.2 (Nat.not_lt.mpr HG.out)));have n2_:=zm (Kd.R_reok rfl hR2 HO0.out.1);have n3_:=zm (Kd.R_kept HO1.out hK2 (fun k hk hs=>h01 k hs.1 hk.1));have n4_:=zm (Kd.R_kept HO2.out hK2 (fun k hk hs=>h02 k hs.1 hk.1));have n5_:=zm (Kd.S_kept HO3.out hK2 (fun k hk hs=>h03 k hs.1 hk.1));have n6_:=zm (Kept.then_ HK.out hK2 (fun k hk=>.inl (.inl hk.1)));clear HB HBK HO0 HO1 HO2 HO3 HK hz0 hR2 hB2 hK2;have HB:=n0_;have HBK:=n1_;have HO0:=n2_;have HO1:=n3_;have HO2:=n4_;have HO3:=n5_;have HK:=n6_;clear n0_ n1_ n2_ n3_ n4_ n5_ n6_;have hz1 : w5.cell? ⟨gb,1,none⟩ = some (.slice A1 l1.length c1):=(zD HBK.out 1).trans rfl)
  | ((with_reducible refine gate_callee (f:=39) rfl ?_);refine goesL_ (some 12) rfl rfl Try.func39 (by kernel_rfl) rfl #[.slice A1 l1.length c1,.int .i64 r0] rfl (by (try simp only [List.map_toArray,List.map_cons,List.map_nil]);first|done|rfl) ?_;(with_reducible refine (laws_markIntS.calls k (fun k=>P1_ k∧k < w.heap.size) (.slice A1 l1.length c1) l1 r0 r1 q1 w0 _ ?side1 ?side2 F1.out).mono ?_);(case side1=>exact HB.out);(case side2=>exact HO1.out);rintro e w6 ⟨rfl,hR2,hB2,hK2⟩;refine ⟨_,rfl,?_⟩;have n0_:=zm hB2;have n1_:=zm (blk_kept HBK.out hK2 (fun hs=>absurd hs.2 (Nat.not_lt.mpr HG.out)));have n2_:=zm (Kd.R_kept HO0.out hK2 (fun k hk hs=>h01 k hk.1 hs.1));have n3_:=zm (Kd.R_reok rfl hR2 HO1.out.1);have n4_:=zm (Kd.R_kept HO2.out hK2 (fun k hk hs=>h12 k hs.1 hk.1));have n5_:=zm (Kd.S_kept HO3.out hK2 (fun k hk hs=>h13 k hs.1 hk.1));have n6_:=zm (Kept.then_ HK.out hK2 (fun k hk=>.inl (.inr (.inl hk.1))));clear HB HBK HO0 HO1 HO2 HO3 HK hz1 hR2 hB2 hK2;have HB:=n0_;have HBK:=n1_;have HO0:=n2_;have HO1:=n3_;have HO2:=n4_;have HO3:=n5_;have HK:=n6_;clear n0_ n1_ n2_ n3_ n4_ n5_ n6_;have hz2 : w6.cell? ⟨gb,2,none⟩ = some (.slice A2 l2.length c2):=(zD HBK.out 2).trans rfl)
  | ((with_reducible refine gate_callee (f:=40) rfl ?_);refine goesL_ (some 16) rfl rfl Try.func40 (by kernel_rfl) rfl #[.slice A2 l2.length c2,.int .i64 r1] rfl (by (try simp only [List.map_toArray,List.map_cons,List.map_nil]);first|done|rfl) ?_;(with_reducible refine (laws_markBoolS.calls k (fun k=>P2_ k∧k < w.heap.size) (.slice A2 l2.length c2) l2 r1 r2 q2 w0 _ ?side1 ?side2 F2.out).mono ?_);(case side1=>exact HB.out);(case side2=>exact HO2.out);rintro e w7 ⟨rfl,hR2,hB2,hK2⟩;refine ⟨_,rfl,?_⟩;have n0_:=zm hB2;have n1_:=zm (blk_kept HBK.out hK2 (fun hs=>absurd hs.2 (Nat.not_lt.mpr HG.out)));have n2_:=zm (Kd.R_kept HO0.out hK2 (fun k hk hs=>h02 k hk.1 hs.1));have n3_:=zm (Kd.R_kept HO1.out hK2 (fun k hk hs=>h12 k hk.1 hs.1));have n4_:=zm (Kd.R_reok rfl hR2 HO2.out.1);have n5_:=zm (Kd.S_kept HO3.out hK2 (fun k hk hs=>h23 k hs.1 hk.1));have n6_:=zm (Kept.then_ HK.out hK2 (fun k hk=>.inl (.inr (.inr (.inl hk.1)))));clear HB HBK HO0 HO1 HO2 HO3 HK hz2 hR2 hB2 hK2;have HB:=n0_;have HBK:=n1_;have HO0:=n2_;have HO1:=n3_;have HO2:=n4_;have HO3:=n5_;have HK:=n6_;clear n0_ n1_ n2_ n3_ n4_ n5_ n6_;have hz3 : w7.cell? ⟨gb,3,none⟩ = some (.slice A3 l3.length c3):=(zD HBK.out 3).trans rfl)
  | ((with_reducible refine gate_callee (f:=41) rfl ?_);refine goesL_ (some 20) rfl rfl Try.func41 (by kernel_rfl) rfl #[.slice A3 l3.length c3,.int .i64 r2] rfl (by (try simp only [List.map_toArray,List.map_cons,List.map_nil]);first|done|rfl) ?_;(with_reducible refine (laws_markBoolSS.calls k (fun k=>P3_ k∧k < w.heap.size) (.slice A3 l3.length c3) l3 r2 r3 q3 w0 _ ?side1 ?side2 F3.out).mono ?_);(case side1=>exact HB.out);(case side2=>exact HO3.out);rintro e w8 ⟨rfl,hR2,hB2,hK2⟩;refine ⟨_,rfl,?_⟩;have n0_:=zm hB2;have n2_:=zm (Kd.R_kept HO0.out hK2 (fun k hk hs=>h03 k hk.1 hs.1));have n3_:=zm (Kd.R_kept HO1.out hK2 (fun k hk hs=>h13 k hk.1 hs.1));have n4_:=zm (Kd.R_kept HO2.out hK2 (fun k hk hs=>h23 k hk.1 hs.1));have n5_:=zm hR2;have n6_:=zm (Kept.then_ HK.out hK2 (fun k hk=>.inl (.inr (.inr (.inr hk.1)))));clear HB HBK HO0 HO1 HO2 HO3 HK hz3 hR2 hB2 hK2;have HB:=n0_;have HO0:=n2_;have HO1:=n3_;have HO2:=n4_;have HO3:=n5_;have HK:=n6_;clear n0_ n2_ n3_ n4_ n5_ n6_))
 go_ret
 exact ⟨by first|rfl|(simp;done)|(simp [*];done),by (with_reducible repeat (first|apply zP|apply zQ|apply zR));exact zS HO0.out (fun _ h_=>h_.1),by (with_reducible repeat (first|apply zP|apply zQ|apply zR));exact zS HO1.out (fun _ h_=>h_.1),by (with_reducible repeat (first|apply zP|apply zQ|apply zR));exact zS HO2.out (fun _ h_=>h_.1),by (with_reducible repeat (first|apply zDb|apply zEb|apply zFb));exact Kd.S_mono HO3.out (fun _ h_=>h_.1),by repeat (first|(with_reducible first|exact HB.out|apply zA|apply zB|apply zC)|exact HB.out),by repeat (first|(with_reducible first|exact HK.out|apply Kept.alloc|apply Kept.drewN|apply Kept.drew)|exact HK.out)⟩

/-! ### laws_markTold: function 20 -/
def laws_markTold.f (k : Nat) (_c _ln : Int) (l0 l1 : List Int) (l2 : List Bool) (l3 : List (List Bool)) (a1 : Int) : Option (Int × List Int × List Int × List Bool × (List (List Bool))):=laws_markRow.f k l0 l1 l2 l3 a1
theorem laws_markTold.mono : ∀ a0 a1 a2 a3 a4 a5 a6 k,LeO (laws_markTold.f k a0 a1 a2 a3 a4 a5 a6) (laws_markTold.f (k + 1) a0 a1 a2 a3 a4 a5 a6):=by
 intro a0 a1 a2 a3 a4 a5 a6 k
 unfold laws_markTold.f
 repeat' first
   | (with_reducible exact laws_markRow.mono _ _ _ _ _ _)
   | (with_reducible exact LeO.refl _)
   | (with_reducible exact LeO.none _)
   | (with_reducible refine LeO.ite ?_ ?_)
   | (with_reducible refine LeO.bind ?_ (fun _=>?_))
   | exact laws_markRow.mono _ _ _ _ _ _
   | exact LeO.none _
   | refine LeO.ite ?_ ?_
   | refine LeO.bind ?_ (fun _=>?_)
set_option maxHeartbeats 8000000 in
set_option maxRecDepth 100000 in
theorem laws_markTold.calls (k : Nat) (P0_ P1_ P2_ P3_ : Nat→Prop) (c ln : Int) (u0 u1 u2 u3 : Value) (l0 l1 : List Int) (l2 : List Bool) (l3 : List (List Bool)) (a1 : Int) (r : Int) (r0_ r1_ : List Int) (r2_ : List Bool) (r3_ : List (List Bool)) (w0 w : World) (hB : Below w0.heap.size w0 w)
  (ho0 : Kd.R (Kd.int .i64) 3 w w0.heap.size P0_ u0 l0) (ho1 : Kd.R (Kd.int .i64) 3 w w0.heap.size P1_ u1 l1) (ho2 : Kd.R Kd.bool 4 w w0.heap.size P2_ u2 l2) (ho3 : Kd.S (Kd.slice 4 Kd.bool) 23 w w0.heap.size P3_ u3 l3)
  (h01 : ∀ k,P0_ k→¬ P1_ k) (h02 : ∀ k,P0_ k→¬ P2_ k) (h03 : ∀ k,P0_ k→¬ P3_ k) (h12 : ∀ k,P1_ k→¬ P2_ k) (h13 : ∀ k,P1_ k→¬ P3_ k) (h23 : ∀ k,P2_ k→¬ P3_ k) (h : laws_markTold.f k c ln l0 l1 l2 l3 a1 = some (r,r0_,r1_,r2_,r3_)) :
  Calls Try.prog 20 #[.agg #[.int .i64 c,.int .i64 ln,u0,u1,u2,u3],.int .i64 a1] w fun e w'=>e = .returned (.int .i64 r)∧Kd.R (Kd.int .i64) 3 w' w0.heap.size P0_ u0 r0_∧Kd.R (Kd.int .i64) 3 w' w0.heap.size P1_ u1 r1_∧Kd.R Kd.bool 4 w' w0.heap.size P2_ u2 r2_∧Kd.S (Kd.slice 4 Kd.bool) 23 w' w0.heap.size P3_ u3 r3_∧Below w0.heap.size w0 w'∧Kept w w' (fun k=>P0_ k ∨ P1_ k ∨ P2_ k ∨ P3_ k):=by
 have hu40:=Try.underlying40;have hu30:=Try.underlying30;obtain ⟨A0,c0,rfl⟩:=zAb ho0;obtain ⟨A1,c1,rfl⟩:=zAb ho1;obtain ⟨A2,c2,rfl⟩:=zAb ho2;obtain ⟨A3,c3,rfl⟩:=Kd.S_slice ho3;have HO0:=zm (zS (Kd.R_bound ho0) (fun k hk=>(⟨hk.1,hk.2.2.1⟩ : P0_ k∧k < w.heap.size)))
 have HO1:=zm (zS (Kd.R_bound ho1) (fun k hk=>(⟨hk.1,hk.2.2.1⟩ : P1_ k∧k < w.heap.size)))
 have HO2:=zm (zS (Kd.R_bound ho2) (fun k hk=>(⟨hk.1,hk.2.2.1⟩ : P2_ k∧k < w.heap.size)))
 have HO3:=zm (Kd.S_mono (Kd.S_bound ho3) (fun k hk=>(⟨hk.1,hk.2.2.1⟩ : P3_ k∧k < w.heap.size)))
 have HK:=zm (Kept.refl w (fun k=>P0_ k ∨ P1_ k ∨ P2_ k ∨ P3_ k))
 have HB:=zm hB;have H:=zm (show laws_markRow.f k l0 l1 l2 l3 a1 = some (r,r0_,r1_,r2_,r3_) from h);clear hB ho0 ho1 ho2 ho3 h;go_enter Try.func20,Try.ntmps20
 go_wp2_with (first
  | ((with_reducible refine zM (N:=2) rfl ?_);refine zN ?hg (N:=2) ?hd (cs:=#[.int .i64 c,.int .i64 ln,.slice A0 l0.length c0,.slice A1 l1.length c1,.slice A2 l2.length c2,.slice A3 l3.length c3]) (t:=40) ?hr ?_;(case hd=>rfl);(case hg=>rfl);(case hr=>first|(go_simp;done)|(go_simp;rfl));intro gb hg w4 hbox hb;have n0_:=zm (zK HB.out hb);have n1_:=zm hbox;have n2_:=zm (zHb HO0.out hb);have n3_:=zm (zHb HO1.out hb);have n4_:=zm (zHb HO2.out hb);have n5_:=zm (Kd.S_below HO3.out hb);have n6_:=zm (Kept.below HK.out hb);clear HB HO0 HO1 HO2 HO3 HK hg hbox hb;have HB:=n0_;have HBK:=n1_;have HO0:=n2_;have HO1:=n3_;have HO2:=n4_;have HO3:=n5_;have HK:=n6_;clear n0_ n1_ n2_ n3_ n4_ n5_ n6_;have hz0 : w4.cell? ⟨gb,2,none⟩ = some (.slice A0 l0.length c0):=(zD HBK.out 2).trans rfl;have hz1 : w4.cell? ⟨gb,3,none⟩ = some (.slice A1 l1.length c1):=(zD HBK.out 3).trans rfl;have hz2 : w4.cell? ⟨gb,4,none⟩ = some (.slice A2 l2.length c2):=(zD HBK.out 4).trans rfl;have hz3 : w4.cell? ⟨gb,5,none⟩ = some (.slice A3 l3.length c3):=(zD HBK.out 5).trans rfl)
  | ((with_reducible refine gate_callee (f:=12) rfl ?_);refine goesL_ (some 8) rfl rfl Try.func12 (by kernel_rfl) rfl #[.agg #[.slice A0 l0.length c0,.slice A1 l1.length c1,.slice A2 l2.length c2,.slice A3 l3.length c3],.int .i64 a1] rfl (by (try simp only [List.map_toArray,List.map_cons,List.map_nil]);first|done|rfl) ?_;(with_reducible refine (laws_markRow.calls k (fun k=>P0_ k∧k < w.heap.size) (fun k=>P1_ k∧k < w.heap.size) (fun k=>P2_ k∧k < w.heap.size) (fun k=>P3_ k∧k < w.heap.size) (.slice A0 l0.length c0) (.slice A1 l1.length c1) (.slice A2 l2.length c2) (.slice A3 l3.length c3) l0 l1 l2 l3 a1 r r0_ r1_ r2_ r3_ w0 _ ?side1 ?side2 ?side3 ?side4 ?side5 ?side6 ?side7 ?side8 ?side9 ?side10 ?side11 H.out).mono ?_);(case side1=>exact HB.out);(case side2=>exact HO0.out);(case side3=>exact HO1.out);(case side4=>exact HO2.out);(case side5=>exact HO3.out);(case side6=>exact fun k a b=>h01 k a.1 b.1);(case side7=>exact fun k a b=>h02 k a.1 b.1);(case side8=>exact fun k a b=>h03 k a.1 b.1);(case side9=>exact fun k a b=>h12 k a.1 b.1);(case side10=>exact fun k a b=>h13 k a.1 b.1);(case side11=>exact fun k a b=>h23 k a.1 b.1);rintro e w8 ⟨rfl,hR0,hR1,hR2,hR3,hB2,hK2⟩;refine ⟨_,rfl,?_⟩;have n0_:=zm hB2;have n2_:=zm hR0;have n3_:=zm hR1;have n4_:=zm hR2;have n5_:=zm hR3;have n6_:=zm (Kept.then_ HK.out hK2 (fun k hk=>.inl (Or.imp And.left (Or.imp And.left (Or.imp And.left And.left)) hk)));clear HB HBK HO0 HO1 HO2 HO3 HK hz0 hz1 hz2 hz3 hB2 hK2 hR0 hR1 hR2 hR3;have HB:=n0_;have HO0:=n2_;have HO1:=n3_;have HO2:=n4_;have HO3:=n5_;have HK:=n6_;clear n0_ n2_ n3_ n4_ n5_ n6_))
 go_ret
 exact ⟨by first|rfl|(simp;done)|(simp [*];done),by (with_reducible repeat (first|apply zP|apply zQ|apply zR));exact zS HO0.out (fun _ h_=>h_.1),by (with_reducible repeat (first|apply zP|apply zQ|apply zR));exact zS HO1.out (fun _ h_=>h_.1),by (with_reducible repeat (first|apply zP|apply zQ|apply zR));exact zS HO2.out (fun _ h_=>h_.1),by (with_reducible repeat (first|apply zDb|apply zEb|apply zFb));exact Kd.S_mono HO3.out (fun _ h_=>h_.1),by repeat (first|(with_reducible first|exact HB.out|apply zA|apply zB|apply zC)|exact HB.out),by repeat (first|(with_reducible first|exact HK.out|apply Kept.alloc|apply Kept.drewN|apply Kept.drew)|exact HK.out)⟩

end Go.Proofs.Ytpdcghclcgbcfab.X
