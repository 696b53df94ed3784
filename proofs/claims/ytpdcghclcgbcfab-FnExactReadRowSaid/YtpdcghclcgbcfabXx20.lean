-- written by a program of this session (after the kit's print), not trusted: Lean checks it
import Derived.Test.YtpdcghclcgbcfabXx0
namespace Go.Proofs.Ytpdcghclcgbcfab.X
open Go.RowKit Go.Proofs.YtpdcghclcgbcfabW.PrintWords Go.Proofs.YtpdcghclcgbcfabW.PrintLast Go.Proofs.YtpdcghclcgbcfabW.PrintMore
open Go.Proofs.YtpdcghclcgbcfabW.PrintWords renaming below_alloc → zA, below_drew1 → zC, below_set → zF, below_size → zJ, below_step → zK, blk_alloc → zG, blk_below → zL, blk_cell → zD, blk_drew → zI, blk_drewN → zH, blk_frozen → zE, box_event → zN, gate_dst → zM, pw_below_drewN → zB
open Go.Proofs.YtpdcghclcgbcfabW.PrintWords.Kd renaming C_alloc → zT, C_below → zY, C_drew → zV, C_drewN → zU
open Go.Proofs.YtpdcghclcgbcfabW.PrintWords.Aside0 renaming mk → zm
attribute [local go_sem] max2_int min2_int max_two min_two max_three min_three max_four min_four   -- for this text's walks alone
set_option linter.unusedVariables false
set_option linter.unusedSimpArgs false

/-! ### laws_heldIntS: function 56 -/
def laws_heldIntS.l0 : Nat→List Int→Int→Int→Option (Int)
 | 0,_,_,_=>none
 | k + 1,x0,x1,x5=>if x5 < (x0.length : Int) then (if 0 ≤ x5 then (if (rd x0 x5) = x1 then (laws_heldIntS.l0 k x0 (wrap64 (x1 + 1)) (wrap64 (x5 + 1))) else (some (-1))) else (none)) else (some x1)
def laws_heldIntS.f (k : Nat) (l0 : List Int) (a1 : Int) : Option (Int):=laws_heldIntS.l0 k l0 a1 0
theorem laws_heldIntS.mono_l : ∀ k,(∀ y0 y1 y2,LeO (laws_heldIntS.l0 k y0 y1 y2) (laws_heldIntS.l0 (k + 1) y0 y1 y2))
 | 0=>fun _ _ _ r h=>by simp [laws_heldIntS.l0] at h
 | k + 1=>by
  have ih0:=laws_heldIntS.mono_l k
  ·intro y0 y1 y2
   unfold laws_heldIntS.l0
   repeat' first
   | (with_reducible exact ih0 _ _ _)
   | (with_reducible exact LeO.refl _)
   | (with_reducible exact LeO.none _)
   | (with_reducible refine LeO.ite ?_ ?_)
   | (with_reducible refine LeO.bind ?_ (fun _=>?_))
   | exact ih0 _ _ _
   | exact LeO.none _
   | refine LeO.ite ?_ ?_
   | refine LeO.bind ?_ (fun _=>?_)
theorem laws_heldIntS.mono : ∀ a0 a1 k,LeO (laws_heldIntS.f k a0 a1) (laws_heldIntS.f (k + 1) a0 a1):=by
 intro a0 a1 k
 have ih0:=laws_heldIntS.mono_l k;unfold laws_heldIntS.f
 repeat' first
   | (with_reducible exact ih0 _ _ _)
   | (with_reducible exact LeO.refl _)
   | (with_reducible exact LeO.none _)
   | (with_reducible refine LeO.ite ?_ ?_)
   | (with_reducible refine LeO.bind ?_ (fun _=>?_))
   | exact ih0 _ _ _
   | exact LeO.none _
   | refine LeO.ite ?_ ?_
   | refine LeO.bind ?_ (fun _=>?_)
set_option maxHeartbeats 8000000 in
set_option maxRecDepth 100000 in
theorem laws_heldIntS.calls (k : Nat) (A0 : Option Addr) (c0 : Nat) (l0 : List Int) (a1 : Int) (r : Int) (w : World) (hr0 : Kd.C (Kd.int .i64) w A0 l0.length l0) (hc0 : l0.length ≤ c0) (h : laws_heldIntS.f k l0 a1 = some r) :
  Calls Try.prog 56 #[.slice A0 l0.length c0,.int .i64 a1] w fun e w'=>e = .returned (.int .i64 r)∧Drawn0 w w':=by
 have HR0:=zm hr0;have HC0:=zm hc0;clear hr0 hc0;have H : (laws_heldIntS.l0 k l0 a1 0) = some r:=h;clear h;have H':=zm H;clear H;go_enter Try.func56,Try.ntmps56
 go_wp2;go_loopg [1,5] k (fun kq v1 v5 w'=>∃ (x1_1 : Int) (x5_1 : Int),v1 = .int .i64 x1_1∧v5 = .int .i64 x5_1∧Aside0 (laws_heldIntS.l0 kq l0 x1_1 x5_1 = some r)∧Aside0 (kq ≤ k)∧Drawn0 w w')
 case atStart=>exact ⟨(a1),(0),(by first|rfl|(simp;done)|(simp [*];done)),(by first|rfl|(simp;done)|(simp [*];done)),H',⟨Nat.le_refl _⟩,by repeat (first|exact Drawn0.refl _|apply Drawn0.step)⟩
 case round =>
  clear H';(try clear p2);obtain ⟨x1_1,x5_1,rfl,rfl,HA,HK1,⟨m1,rfl⟩⟩:=hrel;cases gk with
  | zero=>exact absurd HA.out (by simp [laws_heldIntS.l0])
  | succ k1 =>
   have H:=HA.out;clear HA;simp only [laws_heldIntS.l0] at H
   by_cases c3 : x5_1 < (l0.length : Int)
   ·rw [if_pos c3] at H;have c3b0 : decide (x5_1 < (l0.length : Int)) = true:=decide_eq_true c3;clear c3;by_cases c4 : 0 ≤ x5_1
    ·rw [if_pos c4] at H;have c4b0 : decide (0 ≤ x5_1) = true:=decide_eq_true c4;clear c4;by_cases c5 : (rd l0 x5_1) = x1_1
     ·rw [if_pos c5] at H;have c5b0 : ((rd l0 x5_1) == x1_1) = true:=beq_iff_eq.mpr c5;have c5b1 : ((rd l0 x5_1) != x1_1) = false:=bne_eq_false_iff_eq.mpr c5;clear c5;have H':=zm H;clear H;have p290 : 0 ≤ (x5_1 : Int):=of_decide_eq_true (by first|(with_reducible assumption)|assumption)
      have q290 : x5_1 < (l0.length : Int):=of_decide_eq_true (by first|(with_reducible assumption)|assumption)
      obtain ⟨ad290,e290,hx290_0⟩:=Kd.at_int HR0.out x5_1 p290 q290;cases e290;replace p290:=eq_true p290;replace q290:=eq_true q290;go_wp2;go_roundg k1
      case measure=>have:=HK1.out;omega
      case rel=>exact ⟨(wrap64 (x1_1 + 1)),(wrap64 (x5_1 + 1)),(by first|rfl|(simp;done)|(simp [*];done)),(by first|rfl|(simp;done)|(simp [*];done)),H',⟨by have:=HK1.out;omega⟩,by repeat (first|exact Drawn0.refl _|apply Drawn0.step)⟩
     ·rw [if_neg c5] at H;have c5b0 : ((rd l0 x5_1) == x1_1) = false:=beq_eq_false_iff_ne.mpr c5;have c5b1 : ((rd l0 x5_1) != x1_1) = true:=bne_iff_ne.mpr c5;obtain rfl:=Option.some.inj H;have p290 : 0 ≤ (x5_1 : Int):=of_decide_eq_true (by first|(with_reducible assumption)|assumption)
      have q290 : x5_1 < (l0.length : Int):=of_decide_eq_true (by first|(with_reducible assumption)|assumption)
      obtain ⟨ad290,e290,hx290_0⟩:=Kd.at_int HR0.out x5_1 p290 q290;cases e290;replace p290:=eq_true p290;replace q290:=eq_true q290;go_wp2;go_ret
      exact ⟨by first|rfl|(simp;done)|(simp [*];done),by repeat (first|exact Drawn0.refl _|apply Drawn0.step)⟩
    ·rw [if_neg c4] at H;exact absurd H (by simp)
   ·rw [if_neg c3] at H;have c3b0 : decide (x5_1 < (l0.length : Int)) = false:=decide_eq_false c3;clear c3;obtain rfl:=Option.some.inj H;go_wp2;go_ret
    exact ⟨by first|rfl|(simp;done)|(simp [*];done),by repeat (first|exact Drawn0.refl _|apply Drawn0.step)⟩

/-! ### laws_heldBoolS: function 57 -/
def laws_heldBoolS.l0 : Nat→List Bool→Int→Int→Option (Int)
 | 0,_,_,_=>none
 | k + 1,x0,x1,x5=>if x5 < (x0.length : Int) then (if 0 ≤ x5 then (if ((rdOf false x0 x5) != ((Int.tmod x1 3) == 0)) = true then (some (-1)) else (laws_heldBoolS.l0 k x0 (wrap64 (x1 + 1)) (wrap64 (x5 + 1)))) else (none)) else (some x1)
def laws_heldBoolS.f (k : Nat) (l0 : List Bool) (a1 : Int) : Option (Int):=laws_heldBoolS.l0 k l0 a1 0
theorem laws_heldBoolS.mono_l : ∀ k,(∀ y0 y1 y2,LeO (laws_heldBoolS.l0 k y0 y1 y2) (laws_heldBoolS.l0 (k + 1) y0 y1 y2))
 | 0=>fun _ _ _ r h=>by simp [laws_heldBoolS.l0] at h
 | k + 1=>by
  have ih0:=laws_heldBoolS.mono_l k
  ·intro y0 y1 y2
   unfold laws_heldBoolS.l0
   repeat' first
   | (with_reducible exact ih0 _ _ _)
   | (with_reducible exact LeO.refl _)
   | (with_reducible exact LeO.none _)
   | (with_reducible refine LeO.ite ?_ ?_)
   | (with_reducible refine LeO.bind ?_ (fun _=>?_))
   | exact ih0 _ _ _
   | exact LeO.none _
   | refine LeO.ite ?_ ?_
   | refine LeO.bind ?_ (fun _=>?_)
theorem laws_heldBoolS.mono : ∀ a0 a1 k,LeO (laws_heldBoolS.f k a0 a1) (laws_heldBoolS.f (k + 1) a0 a1):=by
 intro a0 a1 k
 have ih0:=laws_heldBoolS.mono_l k;unfold laws_heldBoolS.f
 repeat' first
   | (with_reducible exact ih0 _ _ _)
   | (with_reducible exact LeO.refl _)
   | (with_reducible exact LeO.none _)
   | (with_reducible refine LeO.ite ?_ ?_)
   | (with_reducible refine LeO.bind ?_ (fun _=>?_))
   | exact ih0 _ _ _
   | exact LeO.none _
   | refine LeO.ite ?_ ?_
   | refine LeO.bind ?_ (fun _=>?_)
set_option maxHeartbeats 8000000 in
set_option maxRecDepth 100000 in
theorem laws_heldBoolS.calls (k : Nat) (A0 : Option Addr) (c0 : Nat) (l0 : List Bool) (a1 : Int) (r : Int) (w : World) (hr0 : Kd.C Kd.bool w A0 l0.length l0) (hc0 : l0.length ≤ c0) (h : laws_heldBoolS.f k l0 a1 = some r) :
  Calls Try.prog 57 #[.slice A0 l0.length c0,.int .i64 a1] w fun e w'=>e = .returned (.int .i64 r)∧Drawn0 w w':=by
 have HR0:=zm hr0;have HC0:=zm hc0;clear hr0 hc0;have H : (laws_heldBoolS.l0 k l0 a1 0) = some r:=h;clear h;have H':=zm H;clear H;go_enter Try.func57,Try.ntmps57
 go_wp2;go_loopg [1,5] k (fun kq v1 v5 w'=>∃ (x1_1 : Int) (x5_1 : Int),v1 = .int .i64 x1_1∧v5 = .int .i64 x5_1∧Aside0 (laws_heldBoolS.l0 kq l0 x1_1 x5_1 = some r)∧Aside0 (kq ≤ k)∧Drawn0 w w')
 case atStart=>exact ⟨(a1),(0),(by first|rfl|(simp;done)|(simp [*];done)),(by first|rfl|(simp;done)|(simp [*];done)),H',⟨Nat.le_refl _⟩,by repeat (first|exact Drawn0.refl _|apply Drawn0.step)⟩
 case round =>
  clear H';(try clear p2);obtain ⟨x1_1,x5_1,rfl,rfl,HA,HK1,⟨m1,rfl⟩⟩:=hrel;cases gk with
  | zero=>exact absurd HA.out (by simp [laws_heldBoolS.l0])
  | succ k1 =>
   have H:=HA.out;clear HA;simp only [laws_heldBoolS.l0] at H
   by_cases c3 : x5_1 < (l0.length : Int)
   ·rw [if_pos c3] at H;have c3b0 : decide (x5_1 < (l0.length : Int)) = true:=decide_eq_true c3;clear c3;by_cases c4 : 0 ≤ x5_1
    ·rw [if_pos c4] at H;have c4b0 : decide (0 ≤ x5_1) = true:=decide_eq_true c4;clear c4;by_cases c5 : ((rdOf false l0 x5_1) != ((Int.tmod x1_1 3) == 0)) = true
     ·rw [if_pos c5] at H;have c5b0 : ((rdOf false l0 x5_1) != ((Int.tmod x1_1 3) == 0)) = true:=c5;(try (have c5b1 : decide ((rdOf false l0 x5_1) = ((Int.tmod x1_1 3) == 0)) = false:=by simpa using c5))
      (try (have c5b2 : ((rdOf false l0 x5_1) == ((Int.tmod x1_1 3) == 0)) = false:=by simpa using c5))
      (try (have c5b3 : ¬ ((rdOf false l0 x5_1) = ((Int.tmod x1_1 3) == 0)):=by simpa using c5))
      clear c5;obtain rfl:=Option.some.inj H;have p291 : 0 ≤ (x5_1 : Int):=of_decide_eq_true (by first|(with_reducible assumption)|assumption)
      have q291 : x5_1 < (l0.length : Int):=of_decide_eq_true (by first|(with_reducible assumption)|assumption)
      obtain ⟨ad291,e291,hx291_0⟩:=Kd.at_bool HR0.out x5_1 p291 q291;cases e291;replace p291:=eq_true p291;replace q291:=eq_true q291;go_wp2;go_ret
      exact ⟨by first|rfl|(simp;done)|(simp [*];done),by repeat (first|exact Drawn0.refl _|apply Drawn0.step)⟩
     ·rw [if_neg c5] at H;have c5b0 : ((rdOf false l0 x5_1) != ((Int.tmod x1_1 3) == 0)) = false:=by simpa using c5
      (try (have c5b1 : decide ((rdOf false l0 x5_1) = ((Int.tmod x1_1 3) == 0)) = true:=by simpa using c5))
      (try (have c5b2 : ((rdOf false l0 x5_1) == ((Int.tmod x1_1 3) == 0)) = true:=by simpa using c5))
      clear c5;have H':=zm H;clear H;have p291 : 0 ≤ (x5_1 : Int):=of_decide_eq_true (by first|(with_reducible assumption)|assumption)
      have q291 : x5_1 < (l0.length : Int):=of_decide_eq_true (by first|(with_reducible assumption)|assumption)
      obtain ⟨ad291,e291,hx291_0⟩:=Kd.at_bool HR0.out x5_1 p291 q291;cases e291;replace p291:=eq_true p291;replace q291:=eq_true q291;go_wp2;go_roundg k1
      case measure=>have:=HK1.out;omega
      case rel=>exact ⟨(wrap64 (x1_1 + 1)),(wrap64 (x5_1 + 1)),(by first|rfl|(simp;done)|(simp [*];done)),(by first|rfl|(simp;done)|(simp [*];done)),H',⟨by have:=HK1.out;omega⟩,by repeat (first|exact Drawn0.refl _|apply Drawn0.step)⟩
    ·rw [if_neg c4] at H;exact absurd H (by simp)
   ·rw [if_neg c3] at H;have c3b0 : decide (x5_1 < (l0.length : Int)) = false:=decide_eq_false c3;clear c3;obtain rfl:=Option.some.inj H;go_wp2;go_ret
    exact ⟨by first|rfl|(simp;done)|(simp [*];done),by repeat (first|exact Drawn0.refl _|apply Drawn0.step)⟩

/-! ### laws_heldBoolSS: function 58 -/
def laws_heldBoolSS.l0 : Nat→List (List Bool)→Int→Int→Option (Int)
 | 0,_,_,_=>none
 | k + 1,x0,x1,x5=>if x5 < (x0.length : Int) then (if 0 ≤ x5 then ((laws_heldBoolS.f k (rd_L1 x0 x5) x1).bind fun t293=>(if t293 < 0 then (some (-1)) else (laws_heldBoolSS.l0 k x0 t293 (wrap64 (x5 + 1))))) else (none)) else (some x1)
def laws_heldBoolSS.f (k : Nat) (l0 : List (List Bool)) (a1 : Int) : Option (Int):=laws_heldBoolSS.l0 k l0 a1 0
theorem laws_heldBoolSS.mono_l : ∀ k,(∀ y0 y1 y2,LeO (laws_heldBoolSS.l0 k y0 y1 y2) (laws_heldBoolSS.l0 (k + 1) y0 y1 y2))
 | 0=>fun _ _ _ r h=>by simp [laws_heldBoolSS.l0] at h
 | k + 1=>by
  have ih0:=laws_heldBoolSS.mono_l k
  ·intro y0 y1 y2
   unfold laws_heldBoolSS.l0
   repeat' first
   | (with_reducible exact ih0 _ _ _)
   | (with_reducible exact laws_heldBoolS.mono _ _ _)
   | (with_reducible exact LeO.refl _)
   | (with_reducible exact LeO.none _)
   | (with_reducible refine LeO.ite ?_ ?_)
   | (with_reducible refine LeO.bind ?_ (fun _=>?_))
   | exact ih0 _ _ _
   | exact laws_heldBoolS.mono _ _ _
   | exact LeO.none _
   | refine LeO.ite ?_ ?_
   | refine LeO.bind ?_ (fun _=>?_)
theorem laws_heldBoolSS.mono : ∀ a0 a1 k,LeO (laws_heldBoolSS.f k a0 a1) (laws_heldBoolSS.f (k + 1) a0 a1):=by
 intro a0 a1 k
 have ih0:=laws_heldBoolSS.mono_l k;unfold laws_heldBoolSS.f
 repeat' first
   | (with_reducible exact ih0 _ _ _)
   | (with_reducible exact laws_heldBoolS.mono _ _ _)
   | (with_reducible exact LeO.refl _)
   | (with_reducible exact LeO.none _)
   | (with_reducible refine LeO.ite ?_ ?_)
   | (with_reducible refine LeO.bind ?_ (fun _=>?_))
   | exact ih0 _ _ _
   | exact laws_heldBoolS.mono _ _ _
   | exact LeO.none _
   | refine LeO.ite ?_ ?_
   | refine LeO.bind ?_ (fun _=>?_)
set_option maxHeartbeats 8000000 in
set_option maxRecDepth 100000 in
theorem laws_heldBoolSS.calls (k : Nat) (A0 : Option Addr) (c0 : Nat) (l0 : List (List Bool)) (a1 : Int) (r : Int) (w : World) (hr0 : Kd.C (Kd.slice 4 Kd.bool) w A0 l0.length l0) (hc0 : l0.length ≤ c0) (h : laws_heldBoolSS.f k l0 a1 = some r) :
  Calls Try.prog 58 #[.slice A0 l0.length c0,.int .i64 a1] w fun e w'=>e = .returned (.int .i64 r)∧Drawn0 w w':=by
 have HR0:=zm hr0;have HC0:=zm hc0;clear hr0 hc0;have H : (laws_heldBoolSS.l0 k l0 a1 0) = some r:=h;clear h;have H':=zm H;clear H;go_enter Try.func58,Try.ntmps58
 go_wp2;go_loopg [1,5] k (fun kq v1 v5 w'=>∃ (x1_1 : Int) (x5_1 : Int),v1 = .int .i64 x1_1∧v5 = .int .i64 x5_1∧Aside0 (laws_heldBoolSS.l0 kq l0 x1_1 x5_1 = some r)∧Aside0 (kq ≤ k)∧Drawn0 w w')
 case atStart=>exact ⟨(a1),(0),(by first|rfl|(simp;done)|(simp [*];done)),(by first|rfl|(simp;done)|(simp [*];done)),H',⟨Nat.le_refl _⟩,by repeat (first|exact Drawn0.refl _|apply Drawn0.step)⟩
 case round =>
  clear H';(try clear p2);obtain ⟨x1_1,x5_1,rfl,rfl,HA,HK1,⟨m1,rfl⟩⟩:=hrel;cases gk with
  | zero=>exact absurd HA.out (by simp [laws_heldBoolSS.l0])
  | succ k1 =>
   have H:=HA.out;clear HA;simp only [laws_heldBoolSS.l0] at H
   by_cases c3 : x5_1 < (l0.length : Int)
   ·rw [if_pos c3] at H;have c3b0 : decide (x5_1 < (l0.length : Int)) = true:=decide_eq_true c3;clear c3;by_cases c4 : 0 ≤ x5_1
    ·rw [if_pos c4] at H;have c4b0 : decide (0 ≤ x5_1) = true:=decide_eq_true c4;clear c4;replace H:=Option.bind_eq_some_iff.mp H;obtain ⟨t293,A50,H⟩:=H;replace H : (if t293 < 0 then (some (-1)) else (laws_heldBoolSS.l0 k1 l0 t293 (wrap64 (x5_1 + 1)))) = some r:=H;have A5:=zm A50;clear A50;by_cases c6 : t293 < 0
     ·rw [if_pos c6] at H;have c6b0 : decide (t293 < 0) = true:=decide_eq_true c6;clear c6;obtain rfl:=Option.some.inj H;have p292 : 0 ≤ (x5_1 : Int):=of_decide_eq_true (by first|(with_reducible assumption)|assumption)
      have q292 : x5_1 < (l0.length : Int):=of_decide_eq_true (by first|(with_reducible assumption)|assumption)
      obtain ⟨ad292,A292_0,c292_0,e292,hx292_0,hl292_0,hi292_0⟩:=at_L1 HR0.out x5_1 p292 q292;cases e292;have HR292_0:=zm hi292_0;have HC292_0:=zm hl292_0;clear hi292_0 hl292_0;replace p292:=eq_true p292;replace q292:=eq_true q292;go_wp2_with (first|((with_reducible refine gate_callee (f:=57) rfl ?_);refine goesL_ (some 17) rfl rfl Try.func57 (by kernel_rfl) rfl #[.slice A292_0 (rd_L1 l0 x5_1).length c292_0,.int .i64 x1_1] rfl (by (try simp only [List.map_toArray,List.map_cons,List.map_nil]);first|done|rfl|(simp only [List.length_drop,List.length_take];rfl)) ?_;(with_reducible refine (laws_heldBoolS.calls k1 _ _ (rd_L1 l0 x5_1) x1_1 t293 _ ?side1 ?side2 A5.out).mono ?_);(case side1=>repeat (first|exact HR292_0.out|(with_reducible refine zT ?_ _)|(with_reducible refine zU ?_ _)|(with_reducible refine zV ?_)));(case side2=>exact HC292_0.out);rintro e w' ⟨rfl,⟨nd,rfl⟩⟩;refine ⟨_,rfl,?_⟩))
      go_ret
      exact ⟨by first|rfl|(simp;done)|(simp [*];done),by repeat (first|exact Drawn0.refl _|apply Drawn0.step)⟩
     ·rw [if_neg c6] at H;have c6b0 : decide (t293 < 0) = false:=decide_eq_false c6;clear c6;have H':=zm H;clear H;have p292 : 0 ≤ (x5_1 : Int):=of_decide_eq_true (by first|(with_reducible assumption)|assumption)
      have q292 : x5_1 < (l0.length : Int):=of_decide_eq_true (by first|(with_reducible assumption)|assumption)
      obtain ⟨ad292,A292_0,c292_0,e292,hx292_0,hl292_0,hi292_0⟩:=at_L1 HR0.out x5_1 p292 q292;cases e292;have HR292_0:=zm hi292_0;have HC292_0:=zm hl292_0;clear hi292_0 hl292_0;replace p292:=eq_true p292;replace q292:=eq_true q292;go_wp2_with (first|((with_reducible refine gate_callee (f:=57) rfl ?_);refine goesL_ (some 17) rfl rfl Try.func57 (by kernel_rfl) rfl #[.slice A292_0 (rd_L1 l0 x5_1).length c292_0,.int .i64 x1_1] rfl (by (try simp only [List.map_toArray,List.map_cons,List.map_nil]);first|done|rfl|(simp only [List.length_drop,List.length_take];rfl)) ?_;(with_reducible refine (laws_heldBoolS.calls k1 _ _ (rd_L1 l0 x5_1) x1_1 t293 _ ?side1 ?side2 A5.out).mono ?_);(case side1=>repeat (first|exact HR292_0.out|(with_reducible refine zT ?_ _)|(with_reducible refine zU ?_ _)|(with_reducible refine zV ?_)));(case side2=>exact HC292_0.out);rintro e w' ⟨rfl,⟨nd,rfl⟩⟩;refine ⟨_,rfl,?_⟩))
      go_roundg k1
      case measure=>have:=HK1.out;omega
      case rel=>exact ⟨(t293),(wrap64 (x5_1 + 1)),(by first|rfl|(simp;done)|(simp [*];done)),(by first|rfl|(simp;done)|(simp [*];done)),H',⟨by have:=HK1.out;omega⟩,by repeat (first|exact Drawn0.refl _|apply Drawn0.step)⟩
    ·rw [if_neg c4] at H;exact absurd H (by simp)
   ·rw [if_neg c3] at H;have c3b0 : decide (x5_1 < (l0.length : Int)) = false:=decide_eq_false c3;clear c3;obtain rfl:=Option.some.inj H;go_wp2;go_ret
    exact ⟨by first|rfl|(simp;done)|(simp [*];done),by repeat (first|exact Drawn0.refl _|apply Drawn0.step)⟩

/-! ### laws_heldRow: function 46 -/
def laws_heldRow.f (k : Nat) (l0_0 : List Int) (l0_1 : List Int) (l0_2 : List Bool) (l0_3 : List (List Bool)) (a1 : Int) : Option (Int):=(laws_heldIntS.f k l0_0 a1).bind fun t295=>(if t295 < 0 then (some (-1)) else ((laws_heldIntS.f k l0_1 t295).bind fun t296=>(if t296 < 0 then (some (-1)) else ((laws_heldBoolS.f k l0_2 t296).bind fun t297=>(if t297 < 0 then (some (-1)) else ((laws_heldBoolSS.f k l0_3 t297).bind fun t298=>(if t298 < 0 then (some (-1)) else (some t298))))))))
theorem laws_heldRow.mono : ∀ a0 a1 a2 a3 a4 k,LeO (laws_heldRow.f k a0 a1 a2 a3 a4) (laws_heldRow.f (k + 1) a0 a1 a2 a3 a4):=by
 intro a0 a1 a2 a3 a4 k
 unfold laws_heldRow.f
 repeat' first
   | (with_reducible exact laws_heldBoolS.mono _ _ _)
   | (with_reducible exact laws_heldBoolSS.mono _ _ _)
   | (with_reducible exact laws_heldIntS.mono _ _ _)
   | (with_reducible exact LeO.refl _)
   | (with_reducible exact LeO.none _)
   | (with_reducible refine LeO.ite ?_ ?_)
   | (with_reducible refine LeO.bind ?_ (fun _=>?_))
   | exact laws_heldBoolS.mono _ _ _
   | exact laws_heldBoolSS.mono _ _ _
   | exact laws_heldIntS.mono _ _ _
   | exact LeO.none _
   | refine LeO.ite ?_ ?_
   | refine LeO.bind ?_ (fun _=>?_)
set_option maxHeartbeats 8000000 in
set_option maxRecDepth 100000 in
theorem laws_heldRow.calls (k : Nat) (A0_0 : Option Addr) (c0_0 : Nat) (l0_0 : List Int) (A0_1 : Option Addr) (c0_1 : Nat) (l0_1 : List Int) (A0_2 : Option Addr) (c0_2 : Nat) (l0_2 : List Bool) (A0_3 : Option Addr) (c0_3 : Nat) (l0_3 : List (List Bool)) (a1 : Int) (r : Int) (w : World) (hr0_0 : Kd.C (Kd.int .i64) w A0_0 l0_0.length l0_0) (hc0_0 : l0_0.length ≤ c0_0) (hr0_1 : Kd.C (Kd.int .i64) w A0_1 l0_1.length l0_1) (hc0_1 : l0_1.length ≤ c0_1) (hr0_2 : Kd.C Kd.bool w A0_2 l0_2.length l0_2) (hc0_2 : l0_2.length ≤ c0_2) (hr0_3 : Kd.C (Kd.slice 4 Kd.bool) w A0_3 l0_3.length l0_3) (hc0_3 : l0_3.length ≤ c0_3) (h : laws_heldRow.f k l0_0 l0_1 l0_2 l0_3 a1 = some r) :
  Calls Try.prog 46 #[.agg #[.slice A0_0 l0_0.length c0_0,.slice A0_1 l0_1.length c0_1,.slice A0_2 l0_2.length c0_2,.slice A0_3 l0_3.length c0_3],.int .i64 a1] w fun e w'=>e = .returned (.int .i64 r)∧Below w.heap.size w w':=by
 have hu30:=Try.underlying30;have HR0_0:=zm hr0_0;have HC0_0:=zm hc0_0;clear hr0_0 hc0_0;have HR0_1:=zm hr0_1;have HC0_1:=zm hc0_1;clear hr0_1 hc0_1;have HR0_2:=zm hr0_2;have HC0_2:=zm hc0_2;clear hr0_2 hc0_2;have HR0_3:=zm hr0_3;have HC0_3:=zm hc0_3;clear hr0_3 hc0_3;have HB:=zm (Below.refl w.heap.size w);have H : ((laws_heldIntS.f k l0_0 a1).bind fun t295=>(if t295 < 0 then (some (-1)) else ((laws_heldIntS.f k l0_1 t295).bind fun t296=>(if t296 < 0 then (some (-1)) else ((laws_heldBoolS.f k l0_2 t296).bind fun t297=>(if t297 < 0 then (some (-1)) else ((laws_heldBoolSS.f k l0_3 t297).bind fun t298=>(if t298 < 0 then (some (-1)) else (some t298))))))))) = some r:=h
 clear h;replace H:=Option.bind_eq_some_iff.mp H;obtain ⟨t295,A30,H⟩:=H;replace H : (if t295 < 0 then (some (-1)) else ((laws_heldIntS.f k l0_1 t295).bind fun t296=>(if t296 < 0 then (some (-1)) else ((laws_heldBoolS.f k l0_2 t296).bind fun t297=>(if t297 < 0 then (some (-1)) else ((laws_heldBoolSS.f k l0_3 t297).bind fun t298=>(if t298 < 0 then (some (-1)) else (some t298)))))))) = some r:=H
 have A3:=zm A30;clear A30;by_cases c4 : t295 < 0
 ·rw [if_pos c4] at H;have c4b0 : decide (t295 < 0) = true:=decide_eq_true c4;clear c4;obtain rfl:=Option.some.inj H;go_enter Try.func46,Try.ntmps46
  go_wp2_with (first|((with_reducible refine zM (N:=2) rfl ?_);refine zN ?hg (N:=2) ?hd (cs:=#[.slice A0_0 l0_0.length c0_0,.slice A0_1 l0_1.length c0_1,.slice A0_2 l0_2.length c0_2,.slice A0_3 l0_3.length c0_3]) (t:=30) ?hr ?_;(case hd=>rfl);(case hg=>rfl);(case hr=>first|(go_simp;done)|(go_simp;rfl));intro gb294 hg w5 hbox hb;have n0_:=zm (zK (by repeat (first|(with_reducible first|exact HB.out|apply zA|apply zB|apply zC)|exact HB.out)) hb);have n1_:=zm (hbox);have n2_:=zm ((by rw [hg];exact (zJ (by repeat (first|(with_reducible first|exact HB.out|apply zA|apply zB|apply zC)|exact HB.out))) : w.heap.size ≤ gb294));have n3_:=zm ((by rw [hg];exact (zJ (by repeat (first|(with_reducible first|exact HB.out|apply zA|apply zB|apply zC)|exact HB.out))) : w.heap.size ≤ gb294));clear HB;have HB:=n0_;have BK294:=n1_;have GW294:=n2_;have GE294:=n3_;clear n0_ n1_ n2_ n3_;clear hb hbox hg;have hcz6_0 : w5.cell? ⟨gb294,0,none⟩ = some (.slice A0_0 l0_0.length c0_0):=(zD BK294.out 0).trans rfl;have hcz6_1 : w5.cell? ⟨gb294,1,none⟩ = some (.slice A0_1 l0_1.length c0_1):=(zD BK294.out 1).trans rfl;have hcz6_2 : w5.cell? ⟨gb294,2,none⟩ = some (.slice A0_2 l0_2.length c0_2):=(zD BK294.out 2).trans rfl;have hcz6_3 : w5.cell? ⟨gb294,3,none⟩ = some (.slice A0_3 l0_3.length c0_3):=(zD BK294.out 3).trans rfl;have hfz6_0:=zE BK294.out 0;have hfz6_1:=zE BK294.out 1;have hfz6_2:=zE BK294.out 2;have hfz6_3:=zE BK294.out 3)|((with_reducible refine gate_callee (f:=56) rfl ?_);refine goesL_ (some 8) rfl rfl Try.func56 (by kernel_rfl) rfl #[.slice A0_0 l0_0.length c0_0,.int .i64 a1] rfl (by (try simp only [List.map_toArray,List.map_cons,List.map_nil]);first|done|rfl|(simp only [List.length_drop,List.length_take];rfl)) ?_;(with_reducible refine (laws_heldIntS.calls k _ _ l0_0 a1 t295 _ ?side1 ?side2 A3.out).mono ?_);(case side1=>repeat (first|exact (zY HR0_0.out HB.out)|(with_reducible refine zT ?_ _)|(with_reducible refine zU ?_ _)|(with_reducible refine zV ?_)));(case side2=>exact HC0_0.out);rintro e w' ⟨rfl,⟨nd,rfl⟩⟩;refine ⟨_,rfl,?_⟩))
  go_ret
  exact ⟨by first|rfl|(simp [errW_none,errW_some] <;> rfl)|(simp [*,errW_none,errW_some] <;> rfl),by repeat (first|(with_reducible first|exact HB.out|apply zA|apply zB|apply zC|refine zF ?_ GE294.out)|exact HB.out)⟩
 ·rw [if_neg c4] at H;have c4b0 : decide (t295 < 0) = false:=decide_eq_false c4;clear c4;replace H:=Option.bind_eq_some_iff.mp H;obtain ⟨t296,A70,H⟩:=H;replace H : (if t296 < 0 then (some (-1)) else ((laws_heldBoolS.f k l0_2 t296).bind fun t297=>(if t297 < 0 then (some (-1)) else ((laws_heldBoolSS.f k l0_3 t297).bind fun t298=>(if t298 < 0 then (some (-1)) else (some t298)))))) = some r:=H
  have A7:=zm A70;clear A70;by_cases c8 : t296 < 0
  ·rw [if_pos c8] at H;have c8b0 : decide (t296 < 0) = true:=decide_eq_true c8;clear c8;obtain rfl:=Option.some.inj H;go_enter Try.func46,Try.ntmps46
   go_wp2_with (first|((with_reducible refine zM (N:=2) rfl ?_);refine zN ?hg (N:=2) ?hd (cs:=#[.slice A0_0 l0_0.length c0_0,.slice A0_1 l0_1.length c0_1,.slice A0_2 l0_2.length c0_2,.slice A0_3 l0_3.length c0_3]) (t:=30) ?hr ?_;(case hd=>rfl);(case hg=>rfl);(case hr=>first|(go_simp;done)|(go_simp;rfl));intro gb294 hg w9 hbox hb;have n0_:=zm (zK (by repeat (first|(with_reducible first|exact HB.out|apply zA|apply zB|apply zC)|exact HB.out)) hb);have n1_:=zm (hbox);have n2_:=zm ((by rw [hg];exact (zJ (by repeat (first|(with_reducible first|exact HB.out|apply zA|apply zB|apply zC)|exact HB.out))) : w.heap.size ≤ gb294));have n3_:=zm ((by rw [hg];exact (zJ (by repeat (first|(with_reducible first|exact HB.out|apply zA|apply zB|apply zC)|exact HB.out))) : w.heap.size ≤ gb294));clear HB;have HB:=n0_;have BK294:=n1_;have GW294:=n2_;have GE294:=n3_;clear n0_ n1_ n2_ n3_;clear hb hbox hg;have hcz10_0 : w9.cell? ⟨gb294,0,none⟩ = some (.slice A0_0 l0_0.length c0_0):=(zD BK294.out 0).trans rfl;have hcz10_1 : w9.cell? ⟨gb294,1,none⟩ = some (.slice A0_1 l0_1.length c0_1):=(zD BK294.out 1).trans rfl;have hcz10_2 : w9.cell? ⟨gb294,2,none⟩ = some (.slice A0_2 l0_2.length c0_2):=(zD BK294.out 2).trans rfl;have hcz10_3 : w9.cell? ⟨gb294,3,none⟩ = some (.slice A0_3 l0_3.length c0_3):=(zD BK294.out 3).trans rfl;have hfz10_0:=zE BK294.out 0;have hfz10_1:=zE BK294.out 1;have hfz10_2:=zE BK294.out 2;have hfz10_3:=zE BK294.out 3)|((with_reducible refine gate_callee (f:=56) rfl ?_);refine goesL_ (some 8) rfl rfl Try.func56 (by kernel_rfl) rfl #[.slice A0_0 l0_0.length c0_0,.int .i64 a1] rfl (by (try simp only [List.map_toArray,List.map_cons,List.map_nil]);first|done|rfl|(simp only [List.length_drop,List.length_take];rfl)) ?_;(with_reducible refine (laws_heldIntS.calls k _ _ l0_0 a1 t295 _ ?side1 ?side2 A3.out).mono ?_);(case side1=>repeat (first|exact (zY HR0_0.out HB.out)|(with_reducible refine zT ?_ _)|(with_reducible refine zU ?_ _)|(with_reducible refine zV ?_)));(case side2=>exact HC0_0.out);rintro e w' ⟨rfl,⟨nd,rfl⟩⟩;refine ⟨_,rfl,?_⟩)|((with_reducible refine gate_callee (f:=56) rfl ?_);refine goesL_ (some 14) rfl rfl Try.func56 (by kernel_rfl) rfl #[.slice A0_1 l0_1.length c0_1,.int .i64 t295] rfl (by (try simp only [List.map_toArray,List.map_cons,List.map_nil]);first|done|rfl|(simp only [List.length_drop,List.length_take];rfl)) ?_;(with_reducible refine (laws_heldIntS.calls k _ _ l0_1 t295 t296 _ ?side1 ?side2 A7.out).mono ?_);(case side1=>repeat (first|exact (zY HR0_1.out (by repeat (first|(with_reducible first|exact HB.out|apply zA|apply zB|apply zC|refine zF ?_ GE294.out)|exact HB.out)))|(with_reducible refine zT ?_ _)|(with_reducible refine zU ?_ _)|(with_reducible refine zV ?_)));(case side2=>exact HC0_1.out);rintro e w' ⟨rfl,⟨nd,rfl⟩⟩;refine ⟨_,rfl,?_⟩))
   go_ret
   exact ⟨by first|rfl|(simp [errW_none,errW_some] <;> rfl)|(simp [*,errW_none,errW_some] <;> rfl),by repeat (first|(with_reducible first|exact HB.out|apply zA|apply zB|apply zC|refine zF ?_ GE294.out)|exact HB.out)⟩
  ·rw [if_neg c8] at H;have c8b0 : decide (t296 < 0) = false:=decide_eq_false c8;clear c8;replace H:=Option.bind_eq_some_iff.mp H;obtain ⟨t297,A110,H⟩:=H;replace H : (if t297 < 0 then (some (-1)) else ((laws_heldBoolSS.f k l0_3 t297).bind fun t298=>(if t298 < 0 then (some (-1)) else (some t298)))) = some r:=H
   have A11:=zm A110;clear A110;by_cases c12 : t297 < 0
   ·rw [if_pos c12] at H;have c12b0 : decide (t297 < 0) = true:=decide_eq_true c12;clear c12;obtain rfl:=Option.some.inj H;go_enter Try.func46,Try.ntmps46
    go_wp2_with (first|((with_reducible refine zM (N:=2) rfl ?_);refine zN ?hg (N:=2) ?hd (cs:=#[.slice A0_0 l0_0.length c0_0,.slice A0_1 l0_1.length c0_1,.slice A0_2 l0_2.length c0_2,.slice A0_3 l0_3.length c0_3]) (t:=30) ?hr ?_;(case hd=>rfl);(case hg=>rfl);(case hr=>first|(go_simp;done)|(go_simp;rfl));intro gb294 hg w13 hbox hb;have n0_:=zm (zK (by repeat (first|(with_reducible first|exact HB.out|apply zA|apply zB|apply zC)|exact HB.out)) hb);have n1_:=zm (hbox);have n2_:=zm ((by rw [hg];exact (zJ (by repeat (first|(with_reducible first|exact HB.out|apply zA|apply zB|apply zC)|exact HB.out))) : w.heap.size ≤ gb294));have n3_:=zm ((by rw [hg];exact (zJ (by repeat (first|(with_reducible first|exact HB.out|apply zA|apply zB|apply zC)|exact HB.out))) : w.heap.size ≤ gb294));clear HB;have HB:=n0_;have BK294:=n1_;have GW294:=n2_;have GE294:=n3_;clear n0_ n1_ n2_ n3_;clear hb hbox hg;have hcz14_0 : w13.cell? ⟨gb294,0,none⟩ = some (.slice A0_0 l0_0.length c0_0):=(zD BK294.out 0).trans rfl;have hcz14_1 : w13.cell? ⟨gb294,1,none⟩ = some (.slice A0_1 l0_1.length c0_1):=(zD BK294.out 1).trans rfl;have hcz14_2 : w13.cell? ⟨gb294,2,none⟩ = some (.slice A0_2 l0_2.length c0_2):=(zD BK294.out 2).trans rfl;have hcz14_3 : w13.cell? ⟨gb294,3,none⟩ = some (.slice A0_3 l0_3.length c0_3):=(zD BK294.out 3).trans rfl;have hfz14_0:=zE BK294.out 0;have hfz14_1:=zE BK294.out 1;have hfz14_2:=zE BK294.out 2;have hfz14_3:=zE BK294.out 3)|((with_reducible refine gate_callee (f:=56) rfl ?_);refine goesL_ (some 8) rfl rfl Try.func56 (by kernel_rfl) rfl #[.slice A0_0 l0_0.length c0_0,.int .i64 a1] rfl (by (try simp only [List.map_toArray,List.map_cons,List.map_nil]);first|done|rfl|(simp only [List.length_drop,List.length_take];rfl)) ?_;(with_reducible refine (laws_heldIntS.calls k _ _ l0_0 a1 t295 _ ?side1 ?side2 A3.out).mono ?_);(case side1=>repeat (first|exact (zY HR0_0.out HB.out)|(with_reducible refine zT ?_ _)|(with_reducible refine zU ?_ _)|(with_reducible refine zV ?_)));(case side2=>exact HC0_0.out);rintro e w' ⟨rfl,⟨nd,rfl⟩⟩;refine ⟨_,rfl,?_⟩)|((with_reducible refine gate_callee (f:=56) rfl ?_);refine goesL_ (some 14) rfl rfl Try.func56 (by kernel_rfl) rfl #[.slice A0_1 l0_1.length c0_1,.int .i64 t295] rfl (by (try simp only [List.map_toArray,List.map_cons,List.map_nil]);first|done|rfl|(simp only [List.length_drop,List.length_take];rfl)) ?_;(with_reducible refine (laws_heldIntS.calls k _ _ l0_1 t295 t296 _ ?side1 ?side2 A7.out).mono ?_);(case side1=>repeat (first|exact (zY HR0_1.out (by repeat (first|(with_reducible first|exact HB.out|apply zA|apply zB|apply zC|refine zF ?_ GE294.out)|exact HB.out)))|(with_reducible refine zT ?_ _)|(with_reducible refine zU ?_ _)|(with_reducible refine zV ?_)));(case side2=>exact HC0_1.out);rintro e w' ⟨rfl,⟨nd,rfl⟩⟩;refine ⟨_,rfl,?_⟩)|((with_reducible refine gate_callee (f:=57) rfl ?_);refine goesL_ (some 20) rfl rfl Try.func57 (by kernel_rfl) rfl #[.slice A0_2 l0_2.length c0_2,.int .i64 t296] rfl (by (try simp only [List.map_toArray,List.map_cons,List.map_nil]);first|done|rfl|(simp only [List.length_drop,List.length_take];rfl)) ?_;(with_reducible refine (laws_heldBoolS.calls k _ _ l0_2 t296 t297 _ ?side1 ?side2 A11.out).mono ?_);(case side1=>repeat (first|exact (zY HR0_2.out (by repeat (first|(with_reducible first|exact HB.out|apply zA|apply zB|apply zC|refine zF ?_ GE294.out)|exact HB.out)))|(with_reducible refine zT ?_ _)|(with_reducible refine zU ?_ _)|(with_reducible refine zV ?_)));(case side2=>exact HC0_2.out);rintro e w' ⟨rfl,⟨nd,rfl⟩⟩;refine ⟨_,rfl,?_⟩))
    go_ret
    exact ⟨by first|rfl|(simp [errW_none,errW_some] <;> rfl)|(simp [*,errW_none,errW_some] <;> rfl),by repeat (first|(with_reducible first|exact HB.out|apply zA|apply zB|apply zC|refine zF ?_ GE294.out)|exact HB.out)⟩
   ·rw [if_neg c12] at H;have c12b0 : decide (t297 < 0) = false:=decide_eq_false c12;clear c12;replace H:=Option.bind_eq_some_iff.mp H;obtain ⟨t298,A150,H⟩:=H;replace H : (if t298 < 0 then (some (-1)) else (some t298)) = some r:=H;have A15:=zm A150;clear A150;by_cases c16 : t298 < 0
    ·rw [if_pos c16] at H;have c16b0 : decide (t298 < 0) = true:=decide_eq_true c16;clear c16;obtain rfl:=Option.some.inj H;go_enter Try.func46,Try.ntmps46
     go_wp2_with (first|((with_reducible refine zM (N:=2) rfl ?_);refine zN ?hg (N:=2) ?hd (cs:=#[.slice A0_0 l0_0.length c0_0,.slice A0_1 l0_1.length c0_1,.slice A0_2 l0_2.length c0_2,.slice A0_3 l0_3.length c0_3]) (t:=30) ?hr ?_;(case hd=>rfl);(case hg=>rfl);(case hr=>first|(go_simp;done)|(go_simp;rfl));intro gb294 hg w17 hbox hb;have n0_:=zm (zK (by repeat (first|(with_reducible first|exact HB.out|apply zA|apply zB|apply zC)|exact HB.out)) hb);have n1_:=zm (hbox);have n2_:=zm ((by rw [hg];exact (zJ (by repeat (first|(with_reducible first|exact HB.out|apply zA|apply zB|apply zC)|exact HB.out))) : w.heap.size ≤ gb294));have n3_:=zm ((by rw [hg];exact (zJ (by repeat (first|(with_reducible first|exact HB.out|apply zA|apply zB|apply zC)|exact HB.out))) : w.heap.size ≤ gb294));clear HB;have HB:=n0_;have BK294:=n1_;have GW294:=n2_;have GE294:=n3_;clear n0_ n1_ n2_ n3_;clear hb hbox hg;have hcz18_0 : w17.cell? ⟨gb294,0,none⟩ = some (.slice A0_0 l0_0.length c0_0):=(zD BK294.out 0).trans rfl;have hcz18_1 : w17.cell? ⟨gb294,1,none⟩ = some (.slice A0_1 l0_1.length c0_1):=(zD BK294.out 1).trans rfl;have hcz18_2 : w17.cell? ⟨gb294,2,none⟩ = some (.slice A0_2 l0_2.length c0_2):=(zD BK294.out 2).trans rfl;have hcz18_3 : w17.cell? ⟨gb294,3,none⟩ = some (.slice A0_3 l0_3.length c0_3):=(zD BK294.out 3).trans rfl;have hfz18_0:=zE BK294.out 0;have hfz18_1:=zE BK294.out 1;have hfz18_2:=zE BK294.out 2;have hfz18_3:=zE BK294.out 3)|((with_reducible refine gate_callee (f:=56) rfl ?_);refine goesL_ (some 8) rfl rfl Try.func56 (by kernel_rfl) rfl #[.slice A0_0 l0_0.length c0_0,.int .i64 a1] rfl (by (try simp only [List.map_toArray,List.map_cons,List.map_nil]);first|done|rfl|(simp only [List.length_drop,List.length_take];rfl)) ?_;(with_reducible refine (laws_heldIntS.calls k _ _ l0_0 a1 t295 _ ?side1 ?side2 A3.out).mono ?_);(case side1=>repeat (first|exact (zY HR0_0.out HB.out)|(with_reducible refine zT ?_ _)|(with_reducible refine zU ?_ _)|(with_reducible refine zV ?_)));(case side2=>exact HC0_0.out);rintro e w' ⟨rfl,⟨nd,rfl⟩⟩;refine ⟨_,rfl,?_⟩)|((with_reducible refine gate_callee (f:=56) rfl ?_);refine goesL_ (some 14) rfl rfl Try.func56 (by kernel_rfl) rfl #[.slice A0_1 l0_1.length c0_1,.int .i64 t295] rfl (by (try simp only [List.map_toArray,List.map_cons,List.map_nil]);first|done|rfl|(simp only [List.length_drop,List.length_take];rfl)) ?_;(with_reducible refine (laws_heldIntS.calls k _ _ l0_1 t295 t296 _ ?side1 ?side2 A7.out).mono ?_);(case side1=>repeat (first|exact (zY HR0_1.out (by repeat (first|(with_reducible first|exact HB.out|apply zA|apply zB|apply zC|refine zF ?_ GE294.out)|exact HB.out)))|(with_reducible refine zT ?_ _)|(with_reducible refine zU ?_ _)|(with_reducible refine zV ?_)));(case side2=>exact HC0_1.out);rintro e w' ⟨rfl,⟨nd,rfl⟩⟩;refine ⟨_,rfl,?_⟩)|((with_reducible refine gate_callee (f:=57) rfl ?_);refine goesL_ (some 20) rfl rfl Try.func57 (by kernel_rfl) rfl #[.slice A0_2 l0_2.length c0_2,.int .i64 t296] rfl (by (try simp only [List.map_toArray,List.map_cons,List.map_nil]);first|done|rfl|(simp only [List.length_drop,List.length_take];rfl)) ?_;(with_reducible refine (laws_heldBoolS.calls k _ _ l0_2 t296 t297 _ ?side1 ?side2 A11.out).mono ?_);(case side1=>repeat (first|exact (zY HR0_2.out (by repeat (first|(with_reducible first|exact HB.out|apply zA|apply zB|apply zC|refine zF ?_ GE294.out)|exact HB.out)))|(with_reducible refine zT ?_ _)|(with_reducible refine zU ?_ _)|(with_reducible refine zV ?_)));(case side2=>exact HC0_2.out);rintro e w' ⟨rfl,⟨nd,rfl⟩⟩;refine ⟨_,rfl,?_⟩)|((with_reducible refine gate_callee (f:=58) rfl ?_);refine goesL_ (some 26) rfl rfl Try.func58 (by kernel_rfl) rfl #[.slice A0_3 l0_3.length c0_3,.int .i64 t297] rfl (by (try simp only [List.map_toArray,List.map_cons,List.map_nil]);first|done|rfl|(simp only [List.length_drop,List.length_take];rfl)) ?_;(with_reducible refine (laws_heldBoolSS.calls k _ _ l0_3 t297 t298 _ ?side1 ?side2 A15.out).mono ?_);(case side1=>repeat (first|exact (zY HR0_3.out (by repeat (first|(with_reducible first|exact HB.out|apply zA|apply zB|apply zC|refine zF ?_ GE294.out)|exact HB.out)))|(with_reducible refine zT ?_ _)|(with_reducible refine zU ?_ _)|(with_reducible refine zV ?_)));(case side2=>exact HC0_3.out);rintro e w' ⟨rfl,⟨nd,rfl⟩⟩;refine ⟨_,rfl,?_⟩))
     go_ret
     exact ⟨by first|rfl|(simp [errW_none,errW_some] <;> rfl)|(simp [*,errW_none,errW_some] <;> rfl),by repeat (first|(with_reducible first|exact HB.out|apply zA|apply zB|apply zC|refine zF ?_ GE294.out)|exact HB.out)⟩
    ·rw [if_neg c16] at H;have c16b0 : decide (t298 < 0) = false:=decide_eq_false c16;clear c16;obtain rfl:=Option.some.inj H;go_enter Try.func46,Try.ntmps46
     go_wp2_with (first|((with_reducible refine zM (N:=2) rfl ?_);refine zN ?hg (N:=2) ?hd (cs:=#[.slice A0_0 l0_0.length c0_0,.slice A0_1 l0_1.length c0_1,.slice A0_2 l0_2.length c0_2,.slice A0_3 l0_3.length c0_3]) (t:=30) ?hr ?_;(case hd=>rfl);(case hg=>rfl);(case hr=>first|(go_simp;done)|(go_simp;rfl));intro gb294 hg w19 hbox hb;have n0_:=zm (zK (by repeat (first|(with_reducible first|exact HB.out|apply zA|apply zB|apply zC)|exact HB.out)) hb);have n1_:=zm (hbox);have n2_:=zm ((by rw [hg];exact (zJ (by repeat (first|(with_reducible first|exact HB.out|apply zA|apply zB|apply zC)|exact HB.out))) : w.heap.size ≤ gb294));have n3_:=zm ((by rw [hg];exact (zJ (by repeat (first|(with_reducible first|exact HB.out|apply zA|apply zB|apply zC)|exact HB.out))) : w.heap.size ≤ gb294));clear HB;have HB:=n0_;have BK294:=n1_;have GW294:=n2_;have GE294:=n3_;clear n0_ n1_ n2_ n3_;clear hb hbox hg;have hcz20_0 : w19.cell? ⟨gb294,0,none⟩ = some (.slice A0_0 l0_0.length c0_0):=(zD BK294.out 0).trans rfl;have hcz20_1 : w19.cell? ⟨gb294,1,none⟩ = some (.slice A0_1 l0_1.length c0_1):=(zD BK294.out 1).trans rfl;have hcz20_2 : w19.cell? ⟨gb294,2,none⟩ = some (.slice A0_2 l0_2.length c0_2):=(zD BK294.out 2).trans rfl;have hcz20_3 : w19.cell? ⟨gb294,3,none⟩ = some (.slice A0_3 l0_3.length c0_3):=(zD BK294.out 3).trans rfl;have hfz20_0:=zE BK294.out 0;have hfz20_1:=zE BK294.out 1;have hfz20_2:=zE BK294.out 2;have hfz20_3:=zE BK294.out 3)|((with_reducible refine gate_callee (f:=56) rfl ?_);refine goesL_ (some 8) rfl rfl Try.func56 (by kernel_rfl) rfl #[.slice A0_0 l0_0.length c0_0,.int .i64 a1] rfl (by (try simp only [List.map_toArray,List.map_cons,List.map_nil]);first|done|rfl|(simp only [List.length_drop,List.length_take];rfl)) ?_;(with_reducible refine (laws_heldIntS.calls k _ _ l0_0 a1 t295 _ ?side1 ?side2 A3.out).mono ?_);(case side1=>repeat (first|exact (zY HR0_0.out HB.out)|(with_reducible refine zT ?_ _)|(with_reducible refine zU ?_ _)|(with_reducible refine zV ?_)));(case side2=>exact HC0_0.out);rintro e w' ⟨rfl,⟨nd,rfl⟩⟩;refine ⟨_,rfl,?_⟩)|((with_reducible refine gate_callee (f:=56) rfl ?_);refine goesL_ (some 14) rfl rfl Try.func56 (by kernel_rfl) rfl #[.slice A0_1 l0_1.length c0_1,.int .i64 t295] rfl (by (try simp only [List.map_toArray,List.map_cons,List.map_nil]);first|done|rfl|(simp only [List.length_drop,List.length_take];rfl)) ?_;(with_reducible refine (laws_heldIntS.calls k _ _ l0_1 t295 t296 _ ?side1 ?side2 A7.out).mono ?_);(case side1=>repeat (first|exact (zY HR0_1.out (by repeat (first|(with_reducible first|exact HB.out|apply zA|apply zB|apply zC|refine zF ?_ GE294.out)|exact HB.out)))|(with_reducible refine zT ?_ _)|(with_reducible refine zU ?_ _)|(with_reducible refine zV ?_)));(case side2=>exact HC0_1.out);rintro e w' ⟨rfl,⟨nd,rfl⟩⟩;refine ⟨_,rfl,?_⟩)|((with_reducible refine gate_callee (f:=57) rfl ?_);refine goesL_ (some 20) rfl rfl Try.func57 (by kernel_rfl) rfl #[.slice A0_2 l0_2.length c0_2,.int .i64 t296] rfl (by (try simp only [List.map_toArray,List.map_cons,List.map_nil]);first|done|rfl|(simp only [List.length_drop,List.length_take];rfl)) ?_;(with_reducible refine (laws_heldBoolS.calls k _ _ l0_2 t296 t297 _ ?side1 ?side2 A11.out).mono ?_);(case side1=>repeat (first|exact (zY HR0_2.out (by repeat (first|(with_reducible first|exact HB.out|apply zA|apply zB|apply zC|refine zF ?_ GE294.out)|exact HB.out)))|(with_reducible refine zT ?_ _)|(with_reducible refine zU ?_ _)|(with_reducible refine zV ?_)));(case side2=>exact HC0_2.out);rintro e w' ⟨rfl,⟨nd,rfl⟩⟩;refine ⟨_,rfl,?_⟩)|((with_reducible refine gate_callee (f:=58) rfl ?_);refine goesL_ (some 26) rfl rfl Try.func58 (by kernel_rfl) rfl #[.slice A0_3 l0_3.length c0_3,.int .i64 t297] rfl (by (try simp only [List.map_toArray,List.map_cons,List.map_nil]);first|done|rfl|(simp only [List.length_drop,List.length_take];rfl)) ?_;(with_reducible refine (laws_heldBoolSS.calls k _ _ l0_3 t297 t298 _ ?side1 ?side2 A15.out).mono ?_);(case side1=>repeat (first|exact (zY HR0_3.out (by repeat (first|(with_reducible first|exact HB.out|apply zA|apply zB|apply zC|refine zF ?_ GE294.out)|exact HB.out)))|(with_reducible refine zT ?_ _)|(with_reducible refine zU ?_ _)|(with_reducible refine zV ?_)));(case side2=>exact HC0_3.out);rintro e w' ⟨rfl,⟨nd,rfl⟩⟩;refine ⟨_,rfl,?_⟩))
     go_ret
     exact ⟨by first|rfl|(simp [errW_none,errW_some] <;> rfl)|(simp [*,errW_none,errW_some] <;> rfl),by repeat (first|(with_reducible first|exact HB.out|apply zA|apply zB|apply zC|refine zF ?_ GE294.out)|exact HB.out)⟩

/-! ### laws_heldTold: function 21 -/
def laws_heldTold.f (k : Nat) (a0_0 : Int) (a0_1 : Int) (l0_2 : List Int) (l0_3 : List Int) (l0_4 : List Bool) (l0_5 : List (List Bool)) (a1 : Int) : Option (Int):=(laws_heldRow.f k l0_2 l0_3 l0_4 l0_5 a1).bind fun t300=>(if t300 < 0 then (some (-1)) else (some t300))
theorem laws_heldTold.mono : ∀ a0 a1 a2 a3 a4 a5 a6 k,LeO (laws_heldTold.f k a0 a1 a2 a3 a4 a5 a6) (laws_heldTold.f (k + 1) a0 a1 a2 a3 a4 a5 a6):=by
 intro a0 a1 a2 a3 a4 a5 a6 k
 unfold laws_heldTold.f
 repeat' first
   | (with_reducible exact laws_heldRow.mono _ _ _ _ _ _)
   | (with_reducible exact LeO.refl _)
   | (with_reducible exact LeO.none _)
   | (with_reducible refine LeO.ite ?_ ?_)
   | (with_reducible refine LeO.bind ?_ (fun _=>?_))
   | exact laws_heldRow.mono _ _ _ _ _ _
   | exact LeO.none _
   | refine LeO.ite ?_ ?_
   | refine LeO.bind ?_ (fun _=>?_)
set_option maxHeartbeats 8000000 in
set_option maxRecDepth 100000 in
theorem laws_heldTold.calls (k : Nat) (a0_0 : Int) (a0_1 : Int) (A0_2 : Option Addr) (c0_2 : Nat) (l0_2 : List Int) (A0_3 : Option Addr) (c0_3 : Nat) (l0_3 : List Int) (A0_4 : Option Addr) (c0_4 : Nat) (l0_4 : List Bool) (A0_5 : Option Addr) (c0_5 : Nat) (l0_5 : List (List Bool)) (a1 : Int) (r : Int) (w : World) (hr0_2 : Kd.C (Kd.int .i64) w A0_2 l0_2.length l0_2) (hc0_2 : l0_2.length ≤ c0_2) (hr0_3 : Kd.C (Kd.int .i64) w A0_3 l0_3.length l0_3) (hc0_3 : l0_3.length ≤ c0_3) (hr0_4 : Kd.C Kd.bool w A0_4 l0_4.length l0_4) (hc0_4 : l0_4.length ≤ c0_4) (hr0_5 : Kd.C (Kd.slice 4 Kd.bool) w A0_5 l0_5.length l0_5) (hc0_5 : l0_5.length ≤ c0_5) (h : laws_heldTold.f k a0_0 a0_1 l0_2 l0_3 l0_4 l0_5 a1 = some r) :
  Calls Try.prog 21 #[.agg #[.int .i64 a0_0,.int .i64 a0_1,.slice A0_2 l0_2.length c0_2,.slice A0_3 l0_3.length c0_3,.slice A0_4 l0_4.length c0_4,.slice A0_5 l0_5.length c0_5],.int .i64 a1] w fun e w'=>e = .returned (.int .i64 r)∧Below w.heap.size w w':=by
 have hu40:=Try.underlying40;have hu30:=Try.underlying30;have HR0_2:=zm hr0_2;have HC0_2:=zm hc0_2;clear hr0_2 hc0_2;have HR0_3:=zm hr0_3;have HC0_3:=zm hc0_3;clear hr0_3 hc0_3;have HR0_4:=zm hr0_4;have HC0_4:=zm hc0_4;clear hr0_4 hc0_4;have HR0_5:=zm hr0_5;have HC0_5:=zm hc0_5;clear hr0_5 hc0_5;have HB:=zm (Below.refl w.heap.size w);have H : ((laws_heldRow.f k l0_2 l0_3 l0_4 l0_5 a1).bind fun t300=>(if t300 < 0 then (some (-1)) else (some t300))) = some r:=h
 clear h;replace H:=Option.bind_eq_some_iff.mp H;obtain ⟨t300,A30,H⟩:=H;replace H : (if t300 < 0 then (some (-1)) else (some t300)) = some r:=H;have A3:=zm A30;clear A30;by_cases c4 : t300 < 0
 ·rw [if_pos c4] at H;have c4b0 : decide (t300 < 0) = true:=decide_eq_true c4;clear c4;obtain rfl:=Option.some.inj H;go_enter Try.func21,Try.ntmps21
  go_wp2_with (first|((with_reducible refine zM (N:=2) rfl ?_);refine zN ?hg (N:=2) ?hd (cs:=#[.int .i64 a0_0,.int .i64 a0_1,.slice A0_2 l0_2.length c0_2,.slice A0_3 l0_3.length c0_3,.slice A0_4 l0_4.length c0_4,.slice A0_5 l0_5.length c0_5]) (t:=40) ?hr ?_;(case hd=>rfl);(case hg=>rfl);(case hr=>first|(go_simp;done)|(go_simp;rfl));intro gb299 hg w5 hbox hb;have n0_:=zm (zK (by repeat (first|(with_reducible first|exact HB.out|apply zA|apply zB|apply zC)|exact HB.out)) hb);have n1_:=zm (hbox);have n2_:=zm ((by rw [hg];exact (zJ (by repeat (first|(with_reducible first|exact HB.out|apply zA|apply zB|apply zC)|exact HB.out))) : w.heap.size ≤ gb299));have n3_:=zm ((by rw [hg];exact (zJ (by repeat (first|(with_reducible first|exact HB.out|apply zA|apply zB|apply zC)|exact HB.out))) : w.heap.size ≤ gb299));clear HB;have HB:=n0_;have BK299:=n1_;have GW299:=n2_;have GE299:=n3_;clear n0_ n1_ n2_ n3_;clear hb hbox hg;have hcz6_0 : w5.cell? ⟨gb299,0,none⟩ = some (.int .i64 a0_0):=(zD BK299.out 0).trans rfl;have hcz6_1 : w5.cell? ⟨gb299,1,none⟩ = some (.int .i64 a0_1):=(zD BK299.out 1).trans rfl;have hcz6_2 : w5.cell? ⟨gb299,2,none⟩ = some (.slice A0_2 l0_2.length c0_2):=(zD BK299.out 2).trans rfl;have hcz6_3 : w5.cell? ⟨gb299,3,none⟩ = some (.slice A0_3 l0_3.length c0_3):=(zD BK299.out 3).trans rfl;have hcz6_4 : w5.cell? ⟨gb299,4,none⟩ = some (.slice A0_4 l0_4.length c0_4):=(zD BK299.out 4).trans rfl;have hcz6_5 : w5.cell? ⟨gb299,5,none⟩ = some (.slice A0_5 l0_5.length c0_5):=(zD BK299.out 5).trans rfl;have hfz6_0:=zE BK299.out 0;have hfz6_1:=zE BK299.out 1;have hfz6_2:=zE BK299.out 2;have hfz6_3:=zE BK299.out 3;have hfz6_4:=zE BK299.out 4;have hfz6_5:=zE BK299.out 5)|((with_reducible refine gate_callee (f:=46) rfl ?_);refine goesL_ (some 8) rfl rfl Try.func46 (by kernel_rfl) rfl #[.agg #[.slice A0_2 l0_2.length c0_2,.slice A0_3 l0_3.length c0_3,.slice A0_4 l0_4.length c0_4,.slice A0_5 l0_5.length c0_5],.int .i64 a1] rfl (by (try simp only [List.map_toArray,List.map_cons,List.map_nil]);first|done|rfl|(simp only [List.length_drop,List.length_take];rfl)) ?_;(with_reducible refine (laws_heldRow.calls k _ _ l0_2 _ _ l0_3 _ _ l0_4 _ _ l0_5 a1 t300 _ ?side1 ?side2 ?side3 ?side4 ?side5 ?side6 ?side7 ?side8 A3.out).mono ?_);(case side1=>repeat (first|exact (zY HR0_2.out HB.out)|(with_reducible refine zT ?_ _)|(with_reducible refine zU ?_ _)|(with_reducible refine zV ?_)));(case side2=>exact HC0_2.out);(case side3=>repeat (first|exact (zY HR0_3.out HB.out)|(with_reducible refine zT ?_ _)|(with_reducible refine zU ?_ _)|(with_reducible refine zV ?_)));(case side4=>exact HC0_3.out);(case side5=>repeat (first|exact (zY HR0_4.out HB.out)|(with_reducible refine zT ?_ _)|(with_reducible refine zU ?_ _)|(with_reducible refine zV ?_)));(case side6=>exact HC0_4.out);(case side7=>repeat (first|exact (zY HR0_5.out HB.out)|(with_reducible refine zT ?_ _)|(with_reducible refine zU ?_ _)|(with_reducible refine zV ?_)));(case side8=>exact HC0_5.out);rintro e w7 ⟨rfl,hb⟩;refine ⟨_,rfl,?_⟩;have n0_:=zm (zL (g:=gb299) (o:=.cells #[.int .i64 a0_0,.int .i64 a0_1,.slice A0_2 l0_2.length c0_2,.slice A0_3 l0_3.length c0_3,.slice A0_4 l0_4.length c0_4,.slice A0_5 l0_5.length c0_5] 40 (0,0)) (by (with_reducible repeat (first|refine zH ?_ _|refine zI ?_|refine zG ?_ _));exact BK299.out) hb);have n1_:=zm (zK (by repeat (first|(with_reducible first|exact HB.out|apply zA|apply zB|apply zC|refine zF ?_ GE299.out)|exact HB.out)) hb);clear BK299;clear HB;have BK299:=n0_;have HB:=n1_;clear n0_ n1_;(try clear hb);(try clear hb2);(try clear hk);(try clear hi)))
  go_ret
  exact ⟨by first|rfl|(simp [errW_none,errW_some] <;> rfl)|(simp [*,errW_none,errW_some] <;> rfl),by repeat (first|(with_reducible first|exact HB.out|apply zA|apply zB|apply zC|refine zF ?_ GE299.out)|exact HB.out)⟩
 ·rw [if_neg c4] at H;have c4b0 : decide (t300 < 0) = false:=decide_eq_false c4;clear c4;obtain rfl:=Option.some.inj H;go_enter Try.func21,Try.ntmps21
  go_wp2_with (first|((with_reducible refine zM (N:=2) rfl ?_);refine zN ?hg (N:=2) ?hd (cs:=#[.int .i64 a0_0,.int .i64 a0_1,.slice A0_2 l0_2.length c0_2,.slice A0_3 l0_3.length c0_3,.slice A0_4 l0_4.length c0_4,.slice A0_5 l0_5.length c0_5]) (t:=40) ?hr ?_;(case hd=>rfl);(case hg=>rfl);(case hr=>first|(go_simp;done)|(go_simp;rfl));intro gb299 hg w8 hbox hb;have n0_:=zm (zK (by repeat (first|(with_reducible first|exact HB.out|apply zA|apply zB|apply zC)|exact HB.out)) hb);have n1_:=zm (hbox);have n2_:=zm ((by rw [hg];exact (zJ (by repeat (first|(with_reducible first|exact HB.out|apply zA|apply zB|apply zC)|exact HB.out))) : w.heap.size ≤ gb299));have n3_:=zm ((by rw [hg];exact (zJ (by repeat (first|(with_reducible first|exact HB.out|apply zA|apply zB|apply zC)|exact HB.out))) : w.heap.size ≤ gb299));clear HB;have HB:=n0_;have BK299:=n1_;have GW299:=n2_;have GE299:=n3_;clear n0_ n1_ n2_ n3_;clear hb hbox hg;have hcz9_0 : w8.cell? ⟨gb299,0,none⟩ = some (.int .i64 a0_0):=(zD BK299.out 0).trans rfl;have hcz9_1 : w8.cell? ⟨gb299,1,none⟩ = some (.int .i64 a0_1):=(zD BK299.out 1).trans rfl;have hcz9_2 : w8.cell? ⟨gb299,2,none⟩ = some (.slice A0_2 l0_2.length c0_2):=(zD BK299.out 2).trans rfl;have hcz9_3 : w8.cell? ⟨gb299,3,none⟩ = some (.slice A0_3 l0_3.length c0_3):=(zD BK299.out 3).trans rfl;have hcz9_4 : w8.cell? ⟨gb299,4,none⟩ = some (.slice A0_4 l0_4.length c0_4):=(zD BK299.out 4).trans rfl;have hcz9_5 : w8.cell? ⟨gb299,5,none⟩ = some (.slice A0_5 l0_5.length c0_5):=(zD BK299.out 5).trans rfl;have hfz9_0:=zE BK299.out 0;have hfz9_1:=zE BK299.out 1;have hfz9_2:=zE BK299.out 2;have hfz9_3:=zE BK299.out 3;have hfz9_4:=zE BK299.out 4;have hfz9_5:=zE BK299.out 5)|((with_reducible refine gate_callee (f:=46) rfl ?_);refine goesL_ (some 8) rfl rfl Try.func46 (by kernel_rfl) rfl #[.agg #[.slice A0_2 l0_2.length c0_2,.slice A0_3 l0_3.length c0_3,.slice A0_4 l0_4.length c0_4,.slice A0_5 l0_5.length c0_5],.int .i64 a1] rfl (by (try simp only [List.map_toArray,List.map_cons,List.map_nil]);first|done|rfl|(simp only [List.length_drop,List.length_take];rfl)) ?_;(with_reducible refine (laws_heldRow.calls k _ _ l0_2 _ _ l0_3 _ _ l0_4 _ _ l0_5 a1 t300 _ ?side1 ?side2 ?side3 ?side4 ?side5 ?side6 ?side7 ?side8 A3.out).mono ?_);(case side1=>repeat (first|exact (zY HR0_2.out HB.out)|(with_reducible refine zT ?_ _)|(with_reducible refine zU ?_ _)|(with_reducible refine zV ?_)));(case side2=>exact HC0_2.out);(case side3=>repeat (first|exact (zY HR0_3.out HB.out)|(with_reducible refine zT ?_ _)|(with_reducible refine zU ?_ _)|(with_reducible refine zV ?_)));(case side4=>exact HC0_3.out);(case side5=>repeat (first|exact (zY HR0_4.out HB.out)|(with_reducible refine zT ?_ _)|(with_reducible refine zU ?_ _)|(with_reducible refine zV ?_)));(case side6=>exact HC0_4.out);(case side7=>repeat (first|exact (zY HR0_5.out HB.out)|(with_reducible refine zT ?_ _)|(with_reducible refine zU ?_ _)|(with_reducible refine zV ?_)));(case side8=>exact HC0_5.out);rintro e w10 ⟨rfl,hb⟩;refine ⟨_,rfl,?_⟩;have n0_:=zm (zL (g:=gb299) (o:=.cells #[.int .i64 a0_0,.int .i64 a0_1,.slice A0_2 l0_2.length c0_2,.slice A0_3 l0_3.length c0_3,.slice A0_4 l0_4.length c0_4,.slice A0_5 l0_5.length c0_5] 40 (0,0)) (by (with_reducible repeat (first|refine zH ?_ _|refine zI ?_|refine zG ?_ _));exact BK299.out) hb);have n1_:=zm (zK (by repeat (first|(with_reducible first|exact HB.out|apply zA|apply zB|apply zC|refine zF ?_ GE299.out)|exact HB.out)) hb);clear BK299;clear HB;have BK299:=n0_;have HB:=n1_;clear n0_ n1_;(try clear hb);(try clear hb2);(try clear hk);(try clear hi)))
  go_ret
  exact ⟨by first|rfl|(simp [errW_none,errW_some] <;> rfl)|(simp [*,errW_none,errW_some] <;> rfl),by repeat (first|(with_reducible first|exact HB.out|apply zA|apply zB|apply zC|refine zF ?_ GE299.out)|exact HB.out)⟩

end Go.Proofs.Ytpdcghclcgbcfab.X
