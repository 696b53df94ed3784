-- written by a program of this session (after the kit's print), not trusted: Lean checks it
import Derived.Test.YtpdcghclcgbcfaaPx0
import Derived.Test.YtpdcghclcgbcfaaPx9
namespace Go.Proofs.Ytpdcghclcgbcfaa.P
open Go.RowKit Go.Proofs.YtpdcghclcgbcfaaW.PrintWords Go.Proofs.YtpdcghclcgbcfaaW.PrintLast Go.Proofs.YtpdcghclcgbcfaaW.PrintMore
open Go.Proofs.YtpdcghclcgbcfaaW.PrintWords renaming below_alloc → zA, below_drew1 → zC, below_set → zF, below_size → zJ, below_step → zK, blk_alloc → zG, blk_below → zL, blk_cell → zD, blk_drew → zI, blk_drewN → zH, box_event → zN, gate_dst → zM, pw_below_drewN → zB
open Go.Proofs.YtpdcghclcgbcfaaW.PrintWords.Kd renaming C_alloc → zT, C_below → zY, C_drew → zV, C_drewN → zU
open Go.Proofs.YtpdcghclcgbcfaaW.PrintWords.Aside0 renaming mk → zm
open Bool renaming true → y', false → n'
attribute [local go_sem] max2_int min2_int max_two min_two max_three min_three max_four min_four   -- for this text's walks alone
set_option linter.unusedVariables false
set_option linter.unusedSimpArgs false

/-! ### laws_wAgrees: function 18 -/
def laws_wAgrees.l0 : Nat→List Int→List Int→Int→Int→List Int→List Int→List Bool→List (List Bool)→Option (Bool)
 | 0,_,_,_,_,_,_,_,_=>none
 | k + 1,x1,x2,x9,x10,x249000,x249001,x249002,x249003=>if x10 < x9 then (if 0 ≤ x10 then (if x10 < (x1.length : Int) then (if (rd x1 x10) < 0 then (some false) else (if (rd x1 x10) > 3 then (some false) else (if x10 < (x2.length : Int) then (if (rd x2 x10) < (-1) then (some false) else (if (rd x2 x10) > 3 then (some false) else ((laws_wWant.f x249000 x249001 x249002 x249003 x2 x10).bind fun t254=>(if (rd x1 x10) = t254 then (if x10 < (x249003.length : Int) then ((laws_wLamp.f k (rd_L3 x249003 x10) (rd x1 x10)).bind fun t258=>(if (rd x2 x10) = t258 then (laws_wAgrees.l0 k x1 x2 x9 (wrap64 (x10 + 1)) x249000 x249001 x249002 x249003) else (some false))) else (none)) else (some false))))) else (none)))) else (none)) else (none)) else (some true)
def laws_wAgrees.f (k : Nat) (l0_0 : List Int) (l0_1 : List Int) (l0_2 : List Bool) (l0_3 : List (List Bool)) (l1 : List Int) (l2 : List Int) : Option (Bool):=laws_wAgrees.l0 k l1 l2 (l2.length : Int) 0 l0_0 l0_1 l0_2 l0_3
theorem laws_wAgrees.mono_l : ∀ k,(∀ y0 y1 y2 y3 y4 y5 y6 y7,LeO (laws_wAgrees.l0 k y0 y1 y2 y3 y4 y5 y6 y7) (laws_wAgrees.l0 (k + 1) y0 y1 y2 y3 y4 y5 y6 y7))
 | 0=>fun _ _ _ _ _ _ _ _ r h=>by simp [laws_wAgrees.l0] at h
 | k + 1=>by
  have ih0:=laws_wAgrees.mono_l k
  ·intro y0 y1 y2 y3 y4 y5 y6 y7
   unfold laws_wAgrees.l0
   repeat' first
   | (with_reducible exact ih0 _ _ _ _ _ _ _ _)
   | (with_reducible exact laws_wLamp.mono _ _ _)
   | (with_reducible exact LeO.refl _)
   | (with_reducible exact LeO.none _)
   | (with_reducible refine LeO.ite ?_ ?_)
   | (with_reducible refine LeO.bind ?_ (fun _=>?_))
   | exact ih0 _ _ _ _ _ _ _ _
   | exact laws_wLamp.mono _ _ _
   | exact LeO.none _
   | refine LeO.ite ?_ ?_
   | refine LeO.bind ?_ (fun _=>?_)
theorem laws_wAgrees.mono : ∀ a0 a1 a2 a3 a4 a5 k,LeO (laws_wAgrees.f k a0 a1 a2 a3 a4 a5) (laws_wAgrees.f (k + 1) a0 a1 a2 a3 a4 a5):=by
 intro a0 a1 a2 a3 a4 a5 k
 have ih0:=laws_wAgrees.mono_l k;unfold laws_wAgrees.f
 repeat' first
   | (with_reducible exact ih0 _ _ _ _ _ _ _ _)
   | (with_reducible exact laws_wLamp.mono _ _ _)
   | (with_reducible exact LeO.refl _)
   | (with_reducible exact LeO.none _)
   | (with_reducible refine LeO.ite ?_ ?_)
   | (with_reducible refine LeO.bind ?_ (fun _=>?_))
   | exact ih0 _ _ _ _ _ _ _ _
   | exact laws_wLamp.mono _ _ _
   | exact LeO.none _
   | refine LeO.ite ?_ ?_
   | refine LeO.bind ?_ (fun _=>?_)
def laws_wAgrees.T4 : Bool × List (List Nat × List Nat):=(true,[([],[]),([],[]),([0,1],[0,1]),([2],[2]),([3],[3]),([4],[4]),([5],[5]),([5],[5]),([6,7,5],[5,6,7]),([8,5],[5,8]),([9,5],[5,9]),([5,10],[5,10]),([11,5],[11]),([12],[12]),([12],[12]),([13,14,12],[12,13,14]),([15,12],[12,15]),([16,12],[12,16]),([12,17],[12,17]),([18,12],[18]),([19],[19]),([19],[19]),([20,21,19],[19,20,21]),([22,19],[19,22]),([23,19],[19,23]),([19,24],[19,24]),([25,19],[25]),([26],[26]),([26],[26]),([27,28,26],[26,27,28]),([29,26],[26,29]),([26],[26]),([26],[26]),([26],[26]),([31,32,33,26,26],[26,31,32,33]),([30,34,26],[26,30,34]),([26,35],[26,35]),([36,34],[36]),([37],[37]),([37],[37]),([38,39,37],[37,38,39]),([40,37],[37,40]),([37],[37]),([42,37],[37,42]),([37],[37]),([43,44,37],[37,43,44]),([45,37],[37,45]),([37],[37]),([37],[37]),([47,48,37],[37,47,48]),([49,37],[37,49]),([46,50,37,37],[37,46,50]),([41,51,37],[37,41,51]),([37,52],[37,52])])
def laws_wAgrees.B4 : List Nat:=[0,0,3,7,15,31,63,63,255,511,1023,2047,4095,8191,8191,32767,65535,131071,262143,524287,1048575,1048575,4194303,8388607,16777215,33554431,67108863,134217727,134217727,536870911,1073741823,134217727,134217727,134217727,15166603263,34359738367,68719476735,137438953471,274877906943,274877906943,1099511627775,2199023255551,274877906943,4672924418047,274877906943,31061203484671,66245575573503,274877906943,274877906943,422487342972927,985437296394239,2247676645081087,4503599627370495,9007199254740991]
theorem laws_wAgrees.tab4 : rtab .any (opsOf Try.f18 4) = laws_wAgrees.T4:=by kernel_rfl
theorem laws_wAgrees.bits4 : waitsOk laws_wAgrees.T4.2 laws_wAgrees.B4 = true:=by kernel_rfl
set_option maxHeartbeats 8000000 in
set_option maxRecDepth 100000 in
theorem laws_wAgrees.calls (k : Nat) (A0_0 : Option Addr) (c0_0 : Nat) (l0_0 : List Int) (A0_1 : Option Addr) (c0_1 : Nat) (l0_1 : List Int) (A0_2 : Option Addr) (c0_2 : Nat) (l0_2 : List Bool) (A0_3 : Option Addr) (c0_3 : Nat) (l0_3 : List (List Bool)) (A1 : Option Addr) (c1 : Nat) (l1 : List Int) (A2 : Option Addr) (c2 : Nat) (l2 : List Int) (r : Bool) (w : World) (hr0_0 : Kd.C (Kd.int .i64) w A0_0 l0_0.length l0_0) (hc0_0 : l0_0.length ≤ c0_0) (hr0_1 : Kd.C (Kd.int .i64) w A0_1 l0_1.length l0_1) (hc0_1 : l0_1.length ≤ c0_1) (hr0_2 : Kd.C Kd.bool w A0_2 l0_2.length l0_2) (hc0_2 : l0_2.length ≤ c0_2) (hr0_3 : Kd.C (Kd.slice 4 Kd.bool) w A0_3 l0_3.length l0_3) (hc0_3 : l0_3.length ≤ c0_3) (hr1 : Kd.C (Kd.int .i64) w A1 l1.length l1) (hc1 : l1.length ≤ c1) (hr2 : Kd.C (Kd.int .i64) w A2 l2.length l2) (hc2 : l2.length ≤ c2) (h : laws_wAgrees.f k l0_0 l0_1 l0_2 l0_3 l1 l2 = some r) :
  Calls Try.prog 18 #[.agg #[.slice A0_0 l0_0.length c0_0,.slice A0_1 l0_1.length c0_1,.slice A0_2 l0_2.length c0_2,.slice A0_3 l0_3.length c0_3],.slice A1 l1.length c1,.slice A2 l2.length c2] w fun e w'=>e = .returned (.bool r)∧Below w.heap.size w w':=by
 have hu27:=Try.underlying27;have HR0_0:=zm hr0_0;have HC0_0:=zm hc0_0;clear hr0_0 hc0_0;have HR0_1:=zm hr0_1;have HC0_1:=zm hc0_1;clear hr0_1 hc0_1;have HR0_2:=zm hr0_2;have HC0_2:=zm hc0_2;clear hr0_2 hc0_2;have HR0_3:=zm hr0_3;have HC0_3:=zm hc0_3;clear hr0_3 hc0_3;have HR1:=zm hr1;have HC1:=zm hc1;clear hr1 hc1;have HR2:=zm hr2;have HC2:=zm hc2;clear hr2 hc2;have HB:=zm (Below.refl w.heap.size w);have H : (laws_wAgrees.l0 k l1 l2 (l2.length : Int) 0 l0_0 l0_1 l0_2 l0_3) = some r:=h;clear h;have H':=zm H;clear H;go_enter Try.func18,Try.ntmps18
 go_wp2_with (first|((with_reducible refine zM (N:=3) rfl ?_);refine zN ?hg (N:=3) ?hd (cs:=#[.slice A0_0 l0_0.length c0_0,.slice A0_1 l0_1.length c0_1,.slice A0_2 l0_2.length c0_2,.slice A0_3 l0_3.length c0_3]) (t:=27) ?hr ?_;(case hd=>rfl);(case hg=>rfl);(case hr=>first|(go_simp;done)|(go_simp;rfl));intro gb248 hg w4 hbox hb;have n0_:=zm (zK (by repeat (first|(with_reducible first|exact HB.out|apply zA|apply zB|apply zC)|exact HB.out)) hb);have n1_:=zm (hbox);have n2_:=zm ((by rw [hg];exact (zJ (by repeat (first|(with_reducible first|exact HB.out|apply zA|apply zB|apply zC)|exact HB.out))) : w.heap.size ≤ gb248));have n3_:=zm ((by rw [hg];exact (zJ (by repeat (first|(with_reducible first|exact HB.out|apply zA|apply zB|apply zC)|exact HB.out))) : w.heap.size ≤ gb248));clear HB;have HB:=n0_;have BK248:=n1_;have GW248:=n2_;have GE248:=n3_;clear n0_ n1_ n2_ n3_;clear hb hbox hg))
 go_loopg [10] k (fun kq v10 w'=>∃ (x10_1 : Int),v10 = .int .i64 x10_1∧Aside0 (laws_wAgrees.l0 kq l1 l2 (l2.length : Int) x10_1 l0_0 l0_1 l0_2 l0_3 = some r)∧Aside0 (kq ≤ k)∧Aside0 (w'.heap[gb248]? = some (.cells #[(.slice A0_0 l0_0.length c0_0),(.slice A0_1 l0_1.length c0_1),(.slice A0_2 l0_2.length c0_2),(.slice A0_3 l0_3.length c0_3)] 27 (0,0)))∧Aside0 (Below w.heap.size w w'))
 case atStart=>exact ⟨(0),(by first|rfl|(simp;done)|(simp [*];done)),H',⟨Nat.le_refl _⟩,⟨by (with_reducible repeat (first|refine zH ?_ _|refine zI ?_|refine zG ?_ _));exact BK248.out⟩,⟨by repeat (first|(with_reducible first|exact HB.out|apply zA|apply zB|apply zC|refine zF ?_ GE248.out)|exact HB.out)⟩⟩
 case round =>
  clear H';(try clear c1);(try clear c2);(try clear p2);obtain ⟨x10_1,rfl,HA,HK1,BK248,HB⟩:=hrel;cases gk with
  | zero=>exact absurd HA.out (by simp [laws_wAgrees.l0])
  | succ k1 =>
   have H:=HA.out;clear HA;simp only [laws_wAgrees.l0] at H
   by_cases c5 : x10_1 < (l2.length : Int)
   ·rw [if_pos c5] at H;have c5b0 : decide (x10_1 < (l2.length : Int)) = true:=decide_eq_true c5;clear c5;by_cases c6 : 0 ≤ x10_1
    ·rw [if_pos c6] at H;have c6b0 : decide (0 ≤ x10_1) = true:=decide_eq_true c6;clear c6;by_cases c7 : x10_1 < (l1.length : Int)
     ·rw [if_pos c7] at H;have c7b0 : decide (x10_1 < (l1.length : Int)) = true:=decide_eq_true c7;clear c7;by_cases c8 : (rd l1 x10_1) < 0
      ·rw [if_pos c8] at H;have c8b0 : decide ((rd l1 x10_1) < 0) = true:=decide_eq_true c8;clear c8;obtain rfl:=Option.some.inj H;try go_wp2
       have n0_:=zm (zI BK248.out);have n1_:=zm (zC HB.out);clear BK248;clear HB;have BK248:=n0_;have HB:=n1_;clear n0_ n1_;have p249 : 0 ≤ (x10_1 : Int):=of_decide_eq_true (by first|(with_reducible assumption)|assumption)
       have q249 : x10_1 < (l1.length : Int):=of_decide_eq_true (by first|(with_reducible assumption)|assumption)
       obtain ⟨ad249,e249,hx249_0⟩:=Kd.at_int HR1.out x10_1 p249 q249;have hw249_0:=hx249_0;cases e249;replace hx249_0:=(HB.out.cell (World.block_lt_of_cell? w _ hx249_0)).trans hx249_0;replace p249:=eq_true p249;replace q249:=eq_true q249;refine start_ (n:=54) (S:=fun w'=>w'.cell? (ad249.add (x10_1).toNat) = some (.int .i64 (rd l1 x10_1))) (ds:=[]) #[n',n',n',n',n',n',n',n',n',n',n',n',n',n',n',n',n',n',n',n',n',n',n',n',n',n',n',n',n',n',n',n',n',n',n',n',n',n',n',n',n',n',n',n',n',n',n',n',n',n',n',n',n',n'] (by kernel_rfl) rfl rfl (((HB.out.cell (World.block_lt_of_cell? w _ hw249_0)).trans hw249_0)) (fun hHeld=>?_);refine with_tabW laws_wAgrees.tab4 laws_wAgrees.bits4 (fun HT_ HW_=>?_)
       generalize wr.drew = w9 at BK248 HB hx249_0 hHeld ⊢
       refine pure_ (i:=0) (N:=some 13) (v:=?_) (a':=?_) #[y',n',n',n',n',n',n',n',n',n',n',n',n',n',n',n',n',n',n',n',n',n',n',n',n',n',n',n',n',n',n',n',n',n',n',n',n',n',n',n',n',n',n',n',n',n',n',n',n',n',n',n',n',n'] rfl rfl (any_of HT_.out (by kernel_rfl)) (fun _ _ _ h=>h) (Or.inl ⟨by rfl,?_⟩) ?_ ?_
       rotate_left
       ·intro w'
        go_simp
        with_reducible rfl
       rotate_left
       ·simp only [Act.put,List.setIfInBounds_toArray,List.set_cons_zero,List.set_cons_succ,i64_w,i32_w]
        rfl
       refine pure_ (i:=1) (N:=some 14) (v:=?_) (a':=?_) #[y',y',n',n',n',n',n',n',n',n',n',n',n',n',n',n',n',n',n',n',n',n',n',n',n',n',n',n',n',n',n',n',n',n',n',n',n',n',n',n',n',n',n',n',n',n',n',n',n',n',n',n',n',n'] rfl rfl (any_of HT_.out (by kernel_rfl)) (fun _ _ _ h=>h) (Or.inl ⟨by rfl,?_⟩) ?_ ?_
       rotate_left
       ·intro w'
        go_simp
        with_reducible rfl
       rotate_left
       ·simp only [Act.put,List.setIfInBounds_toArray,List.set_cons_zero,List.set_cons_succ,i64_w,i32_w]
        rfl
       refine pure_ (i:=2) (N:=some 15) (v:=?_) (a':=?_) #[y',y',y',n',n',n',n',n',n',n',n',n',n',n',n',n',n',n',n',n',n',n',n',n',n',n',n',n',n',n',n',n',n',n',n',n',n',n',n',n',n',n',n',n',n',n',n',n',n',n',n',n',n',n'] rfl rfl (any_of HT_.out (by kernel_rfl)) (fun _ _ _ h=>h) (Or.inl ⟨by rfl,?_⟩) ?_ ?_
       rotate_left
       ·intro w'
        go_simp
        with_reducible rfl
       rotate_left
       ·simp only [Act.put,List.setIfInBounds_toArray,List.set_cons_zero,List.set_cons_succ,i64_w,i32_w]
        rfl
       refine take_ (i:=3) (N:=some 16) (v:=?_) (a':=?_) #[y',y',y',y',n',n',n',n',n',n',n',n',n',n',n',n',n',n',n',n',n',n',n',n',n',n',n',n',n',n',n',n',n',n',n',n',n',n',n',n',n',n',n',n',n',n',n',n',n',n',n',n',n',n'] rfl rfl (take_ofW HT_.out HW_.out (by kernel_rfl)) (fun _ _ _ h=>h) (Or.inl ⟨by rfl,?_⟩) hHeld ?_ ?_
       rotate_left
       ·intro w' s0
        go_simp
        with_reducible rfl
       rotate_left
       ·simp only [Act.put,List.setIfInBounds_toArray,List.set_cons_zero,List.set_cons_succ,i64_w,i32_w]
        rfl
       refine pure_ (i:=4) (N:=some 17) (v:=?_) (a':=?_) #[y',y',y',y',y',n',n',n',n',n',n',n',n',n',n',n',n',n',n',n',n',n',n',n',n',n',n',n',n',n',n',n',n',n',n',n',n',n',n',n',n',n',n',n',n',n',n',n',n',n',n',n',n',n'] rfl rfl (any_of HT_.out (by kernel_rfl)) (fun _ _ _ h=>h) (Or.inl ⟨by rfl,?_⟩) ?_ ?_
       rotate_left
       ·intro w'
        go_simp
        with_reducible rfl
       rotate_left
       ·simp only [Act.put,List.setIfInBounds_toArray,List.set_cons_zero,List.set_cons_succ,i64_w,i32_w]
        rfl
       refine pure_ (i:=5) (N:=some 18) (v:=?_) (a':=?_) #[y',y',y',y',y',y',n',n',n',n',n',n',n',n',n',n',n',n',n',n',n',n',n',n',n',n',n',n',n',n',n',n',n',n',n',n',n',n',n',n',n',n',n',n',n',n',n',n',n',n',n',n',n',n'] rfl rfl (any_of HT_.out (by kernel_rfl)) (fun _ _ _ h=>h) (Or.inl ⟨by rfl,?_⟩) ?_ ?_
       rotate_left
       ·intro w'
        go_simp
        with_reducible rfl
       rotate_left
       ·simp only [Act.put,List.setIfInBounds_toArray,List.set_cons_zero,List.set_cons_succ,i64_w,i32_w]
        rfl
       refine pure_ (i:=6) (N:=some 19) (v:=undef) (a':=?_) #[y',y',y',y',y',y',y',n',n',n',n',n',n',n',n',n',n',n',n',n',n',n',n',n',n',n',n',n',n',n',n',n',n',n',n',n',n',n',n',n',n',n',n',n',n',n',n',n',n',n',n',n',n',n'] rfl rfl (any_of HT_.out (by kernel_rfl)) (fun _ _ _ h=>h) (Or.inr ⟨by rfl,rfl⟩) ?_ ?_
       rotate_left
       ·simp only [Act.put,List.setIfInBounds_toArray,List.set_cons_zero,List.set_cons_succ,i64_w,i32_w]
        rfl
       refine pure_ (i:=7) (N:=some 20) (v:=undef) (a':=?_) #[y',y',y',y',y',y',y',y',n',n',n',n',n',n',n',n',n',n',n',n',n',n',n',n',n',n',n',n',n',n',n',n',n',n',n',n',n',n',n',n',n',n',n',n',n',n',n',n',n',n',n',n',n',n'] rfl rfl (any_of HT_.out (by kernel_rfl)) (fun _ _ _ h=>h) (Or.inr ⟨by rfl,rfl⟩) ?_ ?_
       rotate_left
       ·simp only [Act.put,List.setIfInBounds_toArray,List.set_cons_zero,List.set_cons_succ,i64_w,i32_w]
        rfl
       refine pure_ (i:=8) (N:=some 21) (v:=undef) (a':=?_) #[y',y',y',y',y',y',y',y',y',n',n',n',n',n',n',n',n',n',n',n',n',n',n',n',n',n',n',n',n',n',n',n',n',n',n',n',n',n',n',n',n',n',n',n',n',n',n',n',n',n',n',n',n',n'] rfl rfl (any_of HT_.out (by kernel_rfl)) (fun _ _ _ h=>h) (Or.inr ⟨by rfl,rfl⟩) ?_ ?_
       rotate_left
       ·simp only [Act.put,List.setIfInBounds_toArray,List.set_cons_zero,List.set_cons_succ,i64_w,i32_w]
        rfl
       refine pure_ (i:=9) (N:=some 22) (v:=undef) (a':=?_) #[y',y',y',y',y',y',y',y',y',y',n',n',n',n',n',n',n',n',n',n',n',n',n',n',n',n',n',n',n',n',n',n',n',n',n',n',n',n',n',n',n',n',n',n',n',n',n',n',n',n',n',n',n',n'] rfl rfl (any_of HT_.out (by kernel_rfl)) (fun _ _ _ h=>h) (Or.inr ⟨by rfl,rfl⟩) ?_ ?_
       rotate_left
       ·simp only [Act.put,List.setIfInBounds_toArray,List.set_cons_zero,List.set_cons_succ,i64_w,i32_w]
        rfl
       refine pure_ (i:=10) (N:=some 23) (v:=undef) (a':=?_) #[y',y',y',y',y',y',y',y',y',y',y',n',n',n',n',n',n',n',n',n',n',n',n',n',n',n',n',n',n',n',n',n',n',n',n',n',n',n',n',n',n',n',n',n',n',n',n',n',n',n',n',n',n',n'] rfl rfl (any_of HT_.out (by kernel_rfl)) (fun _ _ _ h=>h) (Or.inr ⟨by rfl,rfl⟩) ?_ ?_
       rotate_left
       ·simp only [Act.put,List.setIfInBounds_toArray,List.set_cons_zero,List.set_cons_succ,i64_w,i32_w]
        rfl
       refine pure_ (i:=11) (N:=some 24) (v:=?_) (a':=?_) #[y',y',y',y',y',y',y',y',y',y',y',y',n',n',n',n',n',n',n',n',n',n',n',n',n',n',n',n',n',n',n',n',n',n',n',n',n',n',n',n',n',n',n',n',n',n',n',n',n',n',n',n',n',n'] rfl rfl (any_of HT_.out (by kernel_rfl)) (fun _ _ _ h=>h) (Or.inl ⟨by rfl,?_⟩) ?_ ?_
       rotate_left
       ·intro w'
        go_simp
        with_reducible rfl
       rotate_left
       ·simp only [Act.put,List.setIfInBounds_toArray,List.set_cons_zero,List.set_cons_succ,i64_w,i32_w]
        rfl
       refine pure_ (i:=12) (N:=some 25) (v:=?_) (a':=?_) #[y',y',y',y',y',y',y',y',y',y',y',y',y',n',n',n',n',n',n',n',n',n',n',n',n',n',n',n',n',n',n',n',n',n',n',n',n',n',n',n',n',n',n',n',n',n',n',n',n',n',n',n',n',n'] rfl rfl (any_of HT_.out (by kernel_rfl)) (fun _ _ _ h=>h) (Or.inl ⟨by rfl,?_⟩) ?_ ?_
       rotate_left
       ·intro w'
        go_simp
        with_reducible rfl
       rotate_left
       ·simp only [Act.put,List.setIfInBounds_toArray,List.set_cons_zero,List.set_cons_succ,i64_w,i32_w]
        rfl
       refine pure_ (i:=13) (N:=some 26) (v:=undef) (a':=?_) #[y',y',y',y',y',y',y',y',y',y',y',y',y',y',n',n',n',n',n',n',n',n',n',n',n',n',n',n',n',n',n',n',n',n',n',n',n',n',n',n',n',n',n',n',n',n',n',n',n',n',n',n',n',n'] rfl rfl (any_of HT_.out (by kernel_rfl)) (fun _ _ _ h=>h) (Or.inr ⟨by rfl,rfl⟩) ?_ ?_
       rotate_left
       ·simp only [Act.put,List.setIfInBounds_toArray,List.set_cons_zero,List.set_cons_succ,i64_w,i32_w]
        rfl
       refine pure_ (i:=14) (N:=some 27) (v:=undef) (a':=?_) #[y',y',y',y',y',y',y',y',y',y',y',y',y',y',y',n',n',n',n',n',n',n',n',n',n',n',n',n',n',n',n',n',n',n',n',n',n',n',n',n',n',n',n',n',n',n',n',n',n',n',n',n',n',n'] rfl rfl (any_of HT_.out (by kernel_rfl)) (fun _ _ _ h=>h) (Or.inr ⟨by rfl,rfl⟩) ?_ ?_
       rotate_left
       ·simp only [Act.put,List.setIfInBounds_toArray,List.set_cons_zero,List.set_cons_succ,i64_w,i32_w]
        rfl
       refine pure_ (i:=15) (N:=some 28) (v:=undef) (a':=?_) #[y',y',y',y',y',y',y',y',y',y',y',y',y',y',y',y',n',n',n',n',n',n',n',n',n',n',n',n',n',n',n',n',n',n',n',n',n',n',n',n',n',n',n',n',n',n',n',n',n',n',n',n',n',n'] rfl rfl (any_of HT_.out (by kernel_rfl)) (fun _ _ _ h=>h) (Or.inr ⟨by rfl,rfl⟩) ?_ ?_
       rotate_left
       ·simp only [Act.put,List.setIfInBounds_toArray,List.set_cons_zero,List.set_cons_succ,i64_w,i32_w]
        rfl
       refine pure_ (i:=16) (N:=some 29) (v:=undef) (a':=?_) #[y',y',y',y',y',y',y',y',y',y',y',y',y',y',y',y',y',n',n',n',n',n',n',n',n',n',n',n',n',n',n',n',n',n',n',n',n',n',n',n',n',n',n',n',n',n',n',n',n',n',n',n',n',n'] rfl rfl (any_of HT_.out (by kernel_rfl)) (fun _ _ _ h=>h) (Or.inr ⟨by rfl,rfl⟩) ?_ ?_
       rotate_left
       ·simp only [Act.put,List.setIfInBounds_toArray,List.set_cons_zero,List.set_cons_succ,i64_w,i32_w]
        rfl
       refine pure_ (i:=17) (N:=some 30) (v:=undef) (a':=?_) #[y',y',y',y',y',y',y',y',y',y',y',y',y',y',y',y',y',y',n',n',n',n',n',n',n',n',n',n',n',n',n',n',n',n',n',n',n',n',n',n',n',n',n',n',n',n',n',n',n',n',n',n',n',n'] rfl rfl (any_of HT_.out (by kernel_rfl)) (fun _ _ _ h=>h) (Or.inr ⟨by rfl,rfl⟩) ?_ ?_
       rotate_left
       ·simp only [Act.put,List.setIfInBounds_toArray,List.set_cons_zero,List.set_cons_succ,i64_w,i32_w]
        rfl
       refine pure_ (i:=18) (N:=some 31) (v:=?_) (a':=?_) #[y',y',y',y',y',y',y',y',y',y',y',y',y',y',y',y',y',y',y',n',n',n',n',n',n',n',n',n',n',n',n',n',n',n',n',n',n',n',n',n',n',n',n',n',n',n',n',n',n',n',n',n',n',n'] rfl rfl (any_of HT_.out (by kernel_rfl)) (fun _ _ _ h=>h) (Or.inl ⟨by rfl,?_⟩) ?_ ?_
       rotate_left
       ·intro w'
        go_simp
        with_reducible rfl
       rotate_left
       ·simp only [Act.put,List.setIfInBounds_toArray,List.set_cons_zero,List.set_cons_succ,i64_w,i32_w]
        rfl
       refine pure_ (i:=19) (N:=some 32) (v:=?_) (a':=?_) #[y',y',y',y',y',y',y',y',y',y',y',y',y',y',y',y',y',y',y',y',n',n',n',n',n',n',n',n',n',n',n',n',n',n',n',n',n',n',n',n',n',n',n',n',n',n',n',n',n',n',n',n',n',n'] rfl rfl (any_of HT_.out (by kernel_rfl)) (fun _ _ _ h=>h) (Or.inl ⟨by rfl,?_⟩) ?_ ?_
       rotate_left
       ·intro w'
        go_simp
        with_reducible rfl
       rotate_left
       ·simp only [Act.put,List.setIfInBounds_toArray,List.set_cons_zero,List.set_cons_succ,i64_w,i32_w]
        rfl
       refine pure_ (i:=20) (N:=some 33) (v:=undef) (a':=?_) #[y',y',y',y',y',y',y',y',y',y',y',y',y',y',y',y',y',y',y',y',y',n',n',n',n',n',n',n',n',n',n',n',n',n',n',n',n',n',n',n',n',n',n',n',n',n',n',n',n',n',n',n',n',n'] rfl rfl (any_of HT_.out (by kernel_rfl)) (fun _ _ _ h=>h) (Or.inr ⟨by rfl,rfl⟩) ?_ ?_
       rotate_left
       ·simp only [Act.put,List.setIfInBounds_toArray,List.set_cons_zero,List.set_cons_succ,i64_w,i32_w]
        rfl
       refine pure_ (i:=21) (N:=some 34) (v:=undef) (a':=?_) #[y',y',y',y',y',y',y',y',y',y',y',y',y',y',y',y',y',y',y',y',y',y',n',n',n',n',n',n',n',n',n',n',n',n',n',n',n',n',n',n',n',n',n',n',n',n',n',n',n',n',n',n',n',n'] rfl rfl (any_of HT_.out (by kernel_rfl)) (fun _ _ _ h=>h) (Or.inr ⟨by rfl,rfl⟩) ?_ ?_
       rotate_left
       ·simp only [Act.put,List.setIfInBounds_toArray,List.set_cons_zero,List.set_cons_succ,i64_w,i32_w]
        rfl
       refine pure_ (i:=22) (N:=some 35) (v:=undef) (a':=?_) #[y',y',y',y',y',y',y',y',y',y',y',y',y',y',y',y',y',y',y',y',y',y',y',n',n',n',n',n',n',n',n',n',n',n',n',n',n',n',n',n',n',n',n',n',n',n',n',n',n',n',n',n',n',n'] rfl rfl (any_of HT_.out (by kernel_rfl)) (fun _ _ _ h=>h) (Or.inr ⟨by rfl,rfl⟩) ?_ ?_
       rotate_left
       ·simp only [Act.put,List.setIfInBounds_toArray,List.set_cons_zero,List.set_cons_succ,i64_w,i32_w]
        rfl
       refine pure_ (i:=23) (N:=some 36) (v:=undef) (a':=?_) #[y',y',y',y',y',y',y',y',y',y',y',y',y',y',y',y',y',y',y',y',y',y',y',y',n',n',n',n',n',n',n',n',n',n',n',n',n',n',n',n',n',n',n',n',n',n',n',n',n',n',n',n',n',n'] rfl rfl (any_of HT_.out (by kernel_rfl)) (fun _ _ _ h=>h) (Or.inr ⟨by rfl,rfl⟩) ?_ ?_
       rotate_left
       ·simp only [Act.put,List.setIfInBounds_toArray,List.set_cons_zero,List.set_cons_succ,i64_w,i32_w]
        rfl
       refine pure_ (i:=24) (N:=some 37) (v:=undef) (a':=?_) #[y',y',y',y',y',y',y',y',y',y',y',y',y',y',y',y',y',y',y',y',y',y',y',y',y',n',n',n',n',n',n',n',n',n',n',n',n',n',n',n',n',n',n',n',n',n',n',n',n',n',n',n',n',n'] rfl rfl (any_of HT_.out (by kernel_rfl)) (fun _ _ _ h=>h) (Or.inr ⟨by rfl,rfl⟩) ?_ ?_
       rotate_left
       ·simp only [Act.put,List.setIfInBounds_toArray,List.set_cons_zero,List.set_cons_succ,i64_w,i32_w]
        rfl
       refine pure_ (i:=25) (N:=some 38) (v:=?_) (a':=?_) #[y',y',y',y',y',y',y',y',y',y',y',y',y',y',y',y',y',y',y',y',y',y',y',y',y',y',n',n',n',n',n',n',n',n',n',n',n',n',n',n',n',n',n',n',n',n',n',n',n',n',n',n',n',n'] rfl rfl (any_of HT_.out (by kernel_rfl)) (fun _ _ _ h=>h) (Or.inl ⟨by rfl,?_⟩) ?_ ?_
       rotate_left
       ·intro w'
        go_simp
        with_reducible rfl
       rotate_left
       ·simp only [Act.put,List.setIfInBounds_toArray,List.set_cons_zero,List.set_cons_succ,i64_w,i32_w]
        rfl
       refine pure_ (i:=26) (N:=some 39) (v:=?_) (a':=?_) #[y',y',y',y',y',y',y',y',y',y',y',y',y',y',y',y',y',y',y',y',y',y',y',y',y',y',y',n',n',n',n',n',n',n',n',n',n',n',n',n',n',n',n',n',n',n',n',n',n',n',n',n',n',n'] rfl rfl (any_of HT_.out (by kernel_rfl)) (fun _ _ _ h=>h) (Or.inl ⟨by rfl,?_⟩) ?_ ?_
       rotate_left
       ·intro w'
        go_simp
        with_reducible rfl
       rotate_left
       ·simp only [Act.put,List.setIfInBounds_toArray,List.set_cons_zero,List.set_cons_succ,i64_w,i32_w]
        rfl
       refine pure_ (i:=27) (N:=some 40) (v:=undef) (a':=?_) #[y',y',y',y',y',y',y',y',y',y',y',y',y',y',y',y',y',y',y',y',y',y',y',y',y',y',y',y',n',n',n',n',n',n',n',n',n',n',n',n',n',n',n',n',n',n',n',n',n',n',n',n',n',n'] rfl rfl (any_of HT_.out (by kernel_rfl)) (fun _ _ _ h=>h) (Or.inr ⟨by rfl,rfl⟩) ?_ ?_
       rotate_left
       ·simp only [Act.put,List.setIfInBounds_toArray,List.set_cons_zero,List.set_cons_succ,i64_w,i32_w]
        rfl
       refine pure_ (i:=28) (N:=some 41) (v:=undef) (a':=?_) #[y',y',y',y',y',y',y',y',y',y',y',y',y',y',y',y',y',y',y',y',y',y',y',y',y',y',y',y',y',n',n',n',n',n',n',n',n',n',n',n',n',n',n',n',n',n',n',n',n',n',n',n',n',n'] rfl rfl (any_of HT_.out (by kernel_rfl)) (fun _ _ _ h=>h) (Or.inr ⟨by rfl,rfl⟩) ?_ ?_
       rotate_left
       ·simp only [Act.put,List.setIfInBounds_toArray,List.set_cons_zero,List.set_cons_succ,i64_w,i32_w]
        rfl
       refine pure_ (i:=29) (N:=some 42) (v:=undef) (a':=?_) #[y',y',y',y',y',y',y',y',y',y',y',y',y',y',y',y',y',y',y',y',y',y',y',y',y',y',y',y',y',y',n',n',n',n',n',n',n',n',n',n',n',n',n',n',n',n',n',n',n',n',n',n',n',n'] rfl rfl (any_of HT_.out (by kernel_rfl)) (fun _ _ _ h=>h) (Or.inr ⟨by rfl,rfl⟩) ?_ ?_
       rotate_left
       ·simp only [Act.put,List.setIfInBounds_toArray,List.set_cons_zero,List.set_cons_succ,i64_w,i32_w]
        rfl
       refine pure_ (i:=30) (N:=some 43) (v:=undef) (a':=?_) #[y',y',y',y',y',y',y',y',y',y',y',y',y',y',y',y',y',y',y',y',y',y',y',y',y',y',y',y',y',y',y',n',n',n',n',n',n',n',n',n',n',n',n',n',n',n',n',n',n',n',n',n',n',n'] rfl rfl (any_of HT_.out (by kernel_rfl)) (fun _ _ _ h=>h) (Or.inr ⟨by rfl,rfl⟩) ?_ ?_
       rotate_left
       ·simp only [Act.put,List.setIfInBounds_toArray,List.set_cons_zero,List.set_cons_succ,i64_w,i32_w]
        rfl
       refine pure_ (i:=31) (N:=some 44) (v:=undef) (a':=?_) #[y',y',y',y',y',y',y',y',y',y',y',y',y',y',y',y',y',y',y',y',y',y',y',y',y',y',y',y',y',y',y',y',n',n',n',n',n',n',n',n',n',n',n',n',n',n',n',n',n',n',n',n',n',n'] rfl rfl (any_of HT_.out (by kernel_rfl)) (fun _ _ _ h=>h) (Or.inr ⟨by rfl,rfl⟩) ?_ ?_
       rotate_left
       ·simp only [Act.put,List.setIfInBounds_toArray,List.set_cons_zero,List.set_cons_succ,i64_w,i32_w]
        rfl
       refine pure_ (i:=32) (N:=some 45) (v:=undef) (a':=?_) #[y',y',y',y',y',y',y',y',y',y',y',y',y',y',y',y',y',y',y',y',y',y',y',y',y',y',y',y',y',y',y',y',y',n',n',n',n',n',n',n',n',n',n',n',n',n',n',n',n',n',n',n',n',n'] rfl rfl (any_of HT_.out (by kernel_rfl)) (fun _ _ _ h=>h) (Or.inr ⟨by rfl,rfl⟩) ?_ ?_
       rotate_left
       ·simp only [Act.put,List.setIfInBounds_toArray,List.set_cons_zero,List.set_cons_succ,i64_w,i32_w]
        rfl
       refine pure_ (i:=33) (N:=some 46) (v:=undef) (a':=?_) #[y',y',y',y',y',y',y',y',y',y',y',y',y',y',y',y',y',y',y',y',y',y',y',y',y',y',y',y',y',y',y',y',y',y',n',n',n',n',n',n',n',n',n',n',n',n',n',n',n',n',n',n',n',n'] rfl rfl (any_of HT_.out (by kernel_rfl)) (fun _ _ _ h=>h) (Or.inr ⟨by rfl,rfl⟩) ?_ ?_
       rotate_left
       ·simp only [Act.put,List.setIfInBounds_toArray,List.set_cons_zero,List.set_cons_succ,i64_w,i32_w]
        rfl
       refine pure_ (i:=34) (N:=some 47) (v:=undef) (a':=?_) #[y',y',y',y',y',y',y',y',y',y',y',y',y',y',y',y',y',y',y',y',y',y',y',y',y',y',y',y',y',y',y',y',y',y',y',n',n',n',n',n',n',n',n',n',n',n',n',n',n',n',n',n',n',n'] rfl rfl (any_of HT_.out (by kernel_rfl)) (fun _ _ _ h=>h) (Or.inr ⟨by rfl,rfl⟩) ?_ ?_
       rotate_left
       ·simp only [Act.put,List.setIfInBounds_toArray,List.set_cons_zero,List.set_cons_succ,i64_w,i32_w]
        rfl
       refine pure_ (i:=35) (N:=some 48) (v:=undef) (a':=?_) #[y',y',y',y',y',y',y',y',y',y',y',y',y',y',y',y',y',y',y',y',y',y',y',y',y',y',y',y',y',y',y',y',y',y',y',y',n',n',n',n',n',n',n',n',n',n',n',n',n',n',n',n',n',n'] rfl rfl (any_of HT_.out (by kernel_rfl)) (fun _ _ _ h=>h) (Or.inr ⟨by rfl,rfl⟩) ?_ ?_
       rotate_left
       ·simp only [Act.put,List.setIfInBounds_toArray,List.set_cons_zero,List.set_cons_succ,i64_w,i32_w]
        rfl
       refine pure_ (i:=36) (N:=some 49) (v:=?_) (a':=?_) #[y',y',y',y',y',y',y',y',y',y',y',y',y',y',y',y',y',y',y',y',y',y',y',y',y',y',y',y',y',y',y',y',y',y',y',y',y',n',n',n',n',n',n',n',n',n',n',n',n',n',n',n',n',n'] rfl rfl (any_of HT_.out (by kernel_rfl)) (fun _ _ _ h=>h) (Or.inl ⟨by rfl,?_⟩) ?_ ?_
       rotate_left
       ·intro w'
        go_simp
        with_reducible rfl
       rotate_left
       ·simp only [Act.put,List.setIfInBounds_toArray,List.set_cons_zero,List.set_cons_succ,i64_w,i32_w]
        rfl
       refine pure_ (i:=37) (N:=some 50) (v:=?_) (a':=?_) #[y',y',y',y',y',y',y',y',y',y',y',y',y',y',y',y',y',y',y',y',y',y',y',y',y',y',y',y',y',y',y',y',y',y',y',y',y',y',n',n',n',n',n',n',n',n',n',n',n',n',n',n',n',n'] rfl rfl (any_of HT_.out (by kernel_rfl)) (fun _ _ _ h=>h) (Or.inl ⟨by rfl,?_⟩) ?_ ?_
       rotate_left
       ·intro w'
        go_simp
        with_reducible rfl
       rotate_left
       ·simp only [Act.put,List.setIfInBounds_toArray,List.set_cons_zero,List.set_cons_succ,i64_w,i32_w]
        rfl
       refine pure_ (i:=38) (N:=some 51) (v:=undef) (a':=?_) #[y',y',y',y',y',y',y',y',y',y',y',y',y',y',y',y',y',y',y',y',y',y',y',y',y',y',y',y',y',y',y',y',y',y',y',y',y',y',y',n',n',n',n',n',n',n',n',n',n',n',n',n',n',n'] rfl rfl (any_of HT_.out (by kernel_rfl)) (fun _ _ _ h=>h) (Or.inr ⟨by rfl,rfl⟩) ?_ ?_
       rotate_left
       ·simp only [Act.put,List.setIfInBounds_toArray,List.set_cons_zero,List.set_cons_succ,i64_w,i32_w]
        rfl
       refine pure_ (i:=39) (N:=some 52) (v:=undef) (a':=?_) #[y',y',y',y',y',y',y',y',y',y',y',y',y',y',y',y',y',y',y',y',y',y',y',y',y',y',y',y',y',y',y',y',y',y',y',y',y',y',y',y',n',n',n',n',n',n',n',n',n',n',n',n',n',n'] rfl rfl (any_of HT_.out (by kernel_rfl)) (fun _ _ _ h=>h) (Or.inr ⟨by rfl,rfl⟩) ?_ ?_
       rotate_left
       ·simp only [Act.put,List.setIfInBounds_toArray,List.set_cons_zero,List.set_cons_succ,i64_w,i32_w]
        rfl
       refine pure_ (i:=40) (N:=some 53) (v:=undef) (a':=?_) #[y',y',y',y',y',y',y',y',y',y',y',y',y',y',y',y',y',y',y',y',y',y',y',y',y',y',y',y',y',y',y',y',y',y',y',y',y',y',y',y',y',n',n',n',n',n',n',n',n',n',n',n',n',n'] rfl rfl (any_of HT_.out (by kernel_rfl)) (fun _ _ _ h=>h) (Or.inr ⟨by rfl,rfl⟩) ?_ ?_
       rotate_left
       ·simp only [Act.put,List.setIfInBounds_toArray,List.set_cons_zero,List.set_cons_succ,i64_w,i32_w]
        rfl
       refine pure_ (i:=41) (N:=some 54) (v:=undef) (a':=?_) #[y',y',y',y',y',y',y',y',y',y',y',y',y',y',y',y',y',y',y',y',y',y',y',y',y',y',y',y',y',y',y',y',y',y',y',y',y',y',y',y',y',y',n',n',n',n',n',n',n',n',n',n',n',n'] rfl rfl (any_of HT_.out (by kernel_rfl)) (fun _ _ _ h=>h) (Or.inr ⟨by rfl,rfl⟩) ?_ ?_
       rotate_left
       ·simp only [Act.put,List.setIfInBounds_toArray,List.set_cons_zero,List.set_cons_succ,i64_w,i32_w]
        rfl
       refine pure_ (i:=42) (N:=some 55) (v:=undef) (a':=?_) #[y',y',y',y',y',y',y',y',y',y',y',y',y',y',y',y',y',y',y',y',y',y',y',y',y',y',y',y',y',y',y',y',y',y',y',y',y',y',y',y',y',y',y',n',n',n',n',n',n',n',n',n',n',n'] rfl rfl (any_of HT_.out (by kernel_rfl)) (fun _ _ _ h=>h) (Or.inr ⟨by rfl,rfl⟩) ?_ ?_
       rotate_left
       ·simp only [Act.put,List.setIfInBounds_toArray,List.set_cons_zero,List.set_cons_succ,i64_w,i32_w]
        rfl
       refine pure_ (i:=43) (N:=some 56) (v:=undef) (a':=?_) #[y',y',y',y',y',y',y',y',y',y',y',y',y',y',y',y',y',y',y',y',y',y',y',y',y',y',y',y',y',y',y',y',y',y',y',y',y',y',y',y',y',y',y',y',n',n',n',n',n',n',n',n',n',n'] rfl rfl (any_of HT_.out (by kernel_rfl)) (fun _ _ _ h=>h) (Or.inr ⟨by rfl,rfl⟩) ?_ ?_
       rotate_left
       ·simp only [Act.put,List.setIfInBounds_toArray,List.set_cons_zero,List.set_cons_succ,i64_w,i32_w]
        rfl
       refine pure_ (i:=44) (N:=some 57) (v:=undef) (a':=?_) #[y',y',y',y',y',y',y',y',y',y',y',y',y',y',y',y',y',y',y',y',y',y',y',y',y',y',y',y',y',y',y',y',y',y',y',y',y',y',y',y',y',y',y',y',y',n',n',n',n',n',n',n',n',n'] rfl rfl (any_of HT_.out (by kernel_rfl)) (fun _ _ _ h=>h) (Or.inr ⟨by rfl,rfl⟩) ?_ ?_
       rotate_left
       ·simp only [Act.put,List.setIfInBounds_toArray,List.set_cons_zero,List.set_cons_succ,i64_w,i32_w]
        rfl
       refine pure_ (i:=45) (N:=some 58) (v:=undef) (a':=?_) #[y',y',y',y',y',y',y',y',y',y',y',y',y',y',y',y',y',y',y',y',y',y',y',y',y',y',y',y',y',y',y',y',y',y',y',y',y',y',y',y',y',y',y',y',y',y',n',n',n',n',n',n',n',n'] rfl rfl (any_of HT_.out (by kernel_rfl)) (fun _ _ _ h=>h) (Or.inr ⟨by rfl,rfl⟩) ?_ ?_
       rotate_left
       ·simp only [Act.put,List.setIfInBounds_toArray,List.set_cons_zero,List.set_cons_succ,i64_w,i32_w]
        rfl
       refine pure_ (i:=46) (N:=some 59) (v:=undef) (a':=?_) #[y',y',y',y',y',y',y',y',y',y',y',y',y',y',y',y',y',y',y',y',y',y',y',y',y',y',y',y',y',y',y',y',y',y',y',y',y',y',y',y',y',y',y',y',y',y',y',n',n',n',n',n',n',n'] rfl rfl (any_of HT_.out (by kernel_rfl)) (fun _ _ _ h=>h) (Or.inr ⟨by rfl,rfl⟩) ?_ ?_
       rotate_left
       ·simp only [Act.put,List.setIfInBounds_toArray,List.set_cons_zero,List.set_cons_succ,i64_w,i32_w]
        rfl
       refine pure_ (i:=47) (N:=some 60) (v:=undef) (a':=?_) #[y',y',y',y',y',y',y',y',y',y',y',y',y',y',y',y',y',y',y',y',y',y',y',y',y',y',y',y',y',y',y',y',y',y',y',y',y',y',y',y',y',y',y',y',y',y',y',y',n',n',n',n',n',n'] rfl rfl (any_of HT_.out (by kernel_rfl)) (fun _ _ _ h=>h) (Or.inr ⟨by rfl,rfl⟩) ?_ ?_
       rotate_left
       ·simp only [Act.put,List.setIfInBounds_toArray,List.set_cons_zero,List.set_cons_succ,i64_w,i32_w]
        rfl
       refine pure_ (i:=48) (N:=some 61) (v:=undef) (a':=?_) #[y',y',y',y',y',y',y',y',y',y',y',y',y',y',y',y',y',y',y',y',y',y',y',y',y',y',y',y',y',y',y',y',y',y',y',y',y',y',y',y',y',y',y',y',y',y',y',y',y',n',n',n',n',n'] rfl rfl (any_of HT_.out (by kernel_rfl)) (fun _ _ _ h=>h) (Or.inr ⟨by rfl,rfl⟩) ?_ ?_
       rotate_left
       ·simp only [Act.put,List.setIfInBounds_toArray,List.set_cons_zero,List.set_cons_succ,i64_w,i32_w]
        rfl
       refine pure_ (i:=49) (N:=some 62) (v:=undef) (a':=?_) #[y',y',y',y',y',y',y',y',y',y',y',y',y',y',y',y',y',y',y',y',y',y',y',y',y',y',y',y',y',y',y',y',y',y',y',y',y',y',y',y',y',y',y',y',y',y',y',y',y',y',n',n',n',n'] rfl rfl (any_of HT_.out (by kernel_rfl)) (fun _ _ _ h=>h) (Or.inr ⟨by rfl,rfl⟩) ?_ ?_
       rotate_left
       ·simp only [Act.put,List.setIfInBounds_toArray,List.set_cons_zero,List.set_cons_succ,i64_w,i32_w]
        rfl
       refine pure_ (i:=50) (N:=some 63) (v:=undef) (a':=?_) #[y',y',y',y',y',y',y',y',y',y',y',y',y',y',y',y',y',y',y',y',y',y',y',y',y',y',y',y',y',y',y',y',y',y',y',y',y',y',y',y',y',y',y',y',y',y',y',y',y',y',y',n',n',n'] rfl rfl (any_of HT_.out (by kernel_rfl)) (fun _ _ _ h=>h) (Or.inr ⟨by rfl,rfl⟩) ?_ ?_
       rotate_left
       ·simp only [Act.put,List.setIfInBounds_toArray,List.set_cons_zero,List.set_cons_succ,i64_w,i32_w]
        rfl
       refine pure_ (i:=51) (N:=some 64) (v:=undef) (a':=?_) #[y',y',y',y',y',y',y',y',y',y',y',y',y',y',y',y',y',y',y',y',y',y',y',y',y',y',y',y',y',y',y',y',y',y',y',y',y',y',y',y',y',y',y',y',y',y',y',y',y',y',y',y',n',n'] rfl rfl (any_of HT_.out (by kernel_rfl)) (fun _ _ _ h=>h) (Or.inr ⟨by rfl,rfl⟩) ?_ ?_
       rotate_left
       ·simp only [Act.put,List.setIfInBounds_toArray,List.set_cons_zero,List.set_cons_succ,i64_w,i32_w]
        rfl
       refine pure_ (i:=52) (N:=some 65) (v:=undef) (a':=?_) #[y',y',y',y',y',y',y',y',y',y',y',y',y',y',y',y',y',y',y',y',y',y',y',y',y',y',y',y',y',y',y',y',y',y',y',y',y',y',y',y',y',y',y',y',y',y',y',y',y',y',y',y',y',n'] rfl rfl (any_of HT_.out (by kernel_rfl)) (fun _ _ _ h=>h) (Or.inr ⟨by rfl,rfl⟩) ?_ ?_
       rotate_left
       ·simp only [Act.put,List.setIfInBounds_toArray,List.set_cons_zero,List.set_cons_succ,i64_w,i32_w]
        rfl
       refine pure_ (i:=53) (N:=some 66) (v:=?_) (a':=?_) #[y',y',y',y',y',y',y',y',y',y',y',y',y',y',y',y',y',y',y',y',y',y',y',y',y',y',y',y',y',y',y',y',y',y',y',y',y',y',y',y',y',y',y',y',y',y',y',y',y',y',y',y',y',y'] rfl rfl (any_of HT_.out (by kernel_rfl)) (fun _ _ _ h=>h) (Or.inl ⟨by rfl,?_⟩) ?_ ?_
       rotate_left
       ·intro w'
        go_simp
        with_reducible rfl
       rotate_left
       ·simp only [Act.put,List.setIfInBounds_toArray,List.set_cons_zero,List.set_cons_succ,i64_w,i32_w]
        rfl
       refine done_ (done_of HT_.out (by kernel_rfl)) ?_
       try go_wp2
       go_ret
       exact ⟨by first|rfl|(simp [errW_none,errW_some] <;> rfl)|(simp [*,errW_none,errW_some] <;> rfl),by repeat (first|(with_reducible first|exact HB.out|apply zA|apply zB|apply zC|refine zF ?_ GE248.out)|exact HB.out)⟩
      ·rw [if_neg c8] at H;have c8b0 : decide ((rd l1 x10_1) < 0) = false:=decide_eq_false c8;clear c8;by_cases c10 : (rd l1 x10_1) > 3
       ·rw [if_pos c10] at H;have c10b0 : decide (3 < (rd l1 x10_1)) = true:=decide_eq_true c10;clear c10;obtain rfl:=Option.some.inj H;try go_wp2
        have n0_:=zm (zI BK248.out);have n1_:=zm (zC HB.out);clear BK248;clear HB;have BK248:=n0_;have HB:=n1_;clear n0_ n1_;have p249 : 0 ≤ (x10_1 : Int):=of_decide_eq_true (by first|(with_reducible assumption)|assumption)
        have q249 : x10_1 < (l1.length : Int):=of_decide_eq_true (by first|(with_reducible assumption)|assumption)
        obtain ⟨ad249,e249,hx249_0⟩:=Kd.at_int HR1.out x10_1 p249 q249;have hw249_0:=hx249_0;cases e249;replace hx249_0:=(HB.out.cell (World.block_lt_of_cell? w _ hx249_0)).trans hx249_0;replace p249:=eq_true p249;replace q249:=eq_true q249;have p250 : 0 ≤ (x10_1 : Int):=of_decide_eq_true (by first|(with_reducible assumption)|assumption)
        have q250 : x10_1 < (l1.length : Int):=of_decide_eq_true (by first|(with_reducible assumption)|assumption)
        obtain ⟨ad250,e250,hx250_0⟩:=Kd.at_int HR1.out x10_1 p250 q250;have hw250_0:=hx250_0;obtain rfl : ad249 = ad250:=(by injection e250)
        replace hx250_0:=(HB.out.cell (World.block_lt_of_cell? w _ hx250_0)).trans hx250_0;replace p250:=eq_true p250;replace q250:=eq_true q250;refine start_ (n:=54) (S:=fun w'=>w'.cell? (ad249.add (x10_1).toNat) = some (.int .i64 (rd l1 x10_1))∧w'.cell? (ad249.add (x10_1).toNat) = some (.int .i64 (rd l1 x10_1))) (ds:=[]) #[n',n',n',n',n',n',n',n',n',n',n',n',n',n',n',n',n',n',n',n',n',n',n',n',n',n',n',n',n',n',n',n',n',n',n',n',n',n',n',n',n',n',n',n',n',n',n',n',n',n',n',n',n',n'] (by kernel_rfl) rfl rfl ⟨((HB.out.cell (World.block_lt_of_cell? w _ hw249_0)).trans hw249_0),((HB.out.cell (World.block_lt_of_cell? w _ hw250_0)).trans hw250_0)⟩ (fun hHeld=>?_);refine with_tabW laws_wAgrees.tab4 laws_wAgrees.bits4 (fun HT_ HW_=>?_)
        generalize wr.drew = w11 at BK248 HB hx249_0 hx250_0 hHeld ⊢
        refine pure_ (i:=0) (N:=some 13) (v:=?_) (a':=?_) #[y',n',n',n',n',n',n',n',n',n',n',n',n',n',n',n',n',n',n',n',n',n',n',n',n',n',n',n',n',n',n',n',n',n',n',n',n',n',n',n',n',n',n',n',n',n',n',n',n',n',n',n',n',n'] rfl rfl (any_of HT_.out (by kernel_rfl)) (fun _ _ _ h=>h) (Or.inl ⟨by rfl,?_⟩) ?_ ?_
        rotate_left
        ·intro w'
         go_simp
         with_reducible rfl
        rotate_left
        ·simp only [Act.put,List.setIfInBounds_toArray,List.set_cons_zero,List.set_cons_succ,i64_w,i32_w]
         rfl
        refine pure_ (i:=1) (N:=some 14) (v:=?_) (a':=?_) #[y',y',n',n',n',n',n',n',n',n',n',n',n',n',n',n',n',n',n',n',n',n',n',n',n',n',n',n',n',n',n',n',n',n',n',n',n',n',n',n',n',n',n',n',n',n',n',n',n',n',n',n',n',n'] rfl rfl (any_of HT_.out (by kernel_rfl)) (fun _ _ _ h=>h) (Or.inl ⟨by rfl,?_⟩) ?_ ?_
        rotate_left
        ·intro w'
         go_simp
         with_reducible rfl
        rotate_left
        ·simp only [Act.put,List.setIfInBounds_toArray,List.set_cons_zero,List.set_cons_succ,i64_w,i32_w]
         rfl
        refine pure_ (i:=2) (N:=some 15) (v:=?_) (a':=?_) #[y',y',y',n',n',n',n',n',n',n',n',n',n',n',n',n',n',n',n',n',n',n',n',n',n',n',n',n',n',n',n',n',n',n',n',n',n',n',n',n',n',n',n',n',n',n',n',n',n',n',n',n',n',n'] rfl rfl (any_of HT_.out (by kernel_rfl)) (fun _ _ _ h=>h) (Or.inl ⟨by rfl,?_⟩) ?_ ?_
        rotate_left
        ·intro w'
         go_simp
         with_reducible rfl
        rotate_left
        ·simp only [Act.put,List.setIfInBounds_toArray,List.set_cons_zero,List.set_cons_succ,i64_w,i32_w]
         rfl
        refine take_ (i:=3) (N:=some 16) (v:=?_) (a':=?_) #[y',y',y',y',n',n',n',n',n',n',n',n',n',n',n',n',n',n',n',n',n',n',n',n',n',n',n',n',n',n',n',n',n',n',n',n',n',n',n',n',n',n',n',n',n',n',n',n',n',n',n',n',n',n'] rfl rfl (take_ofW HT_.out HW_.out (by kernel_rfl)) (fun _ _ _ h=>h) (Or.inl ⟨by rfl,?_⟩) hHeld ?_ ?_
        rotate_left
        ·rintro w' ⟨s0,s1⟩
         go_simp
         with_reducible rfl
        rotate_left
        ·simp only [Act.put,List.setIfInBounds_toArray,List.set_cons_zero,List.set_cons_succ,i64_w,i32_w]
         rfl
        refine pure_ (i:=4) (N:=some 17) (v:=?_) (a':=?_) #[y',y',y',y',y',n',n',n',n',n',n',n',n',n',n',n',n',n',n',n',n',n',n',n',n',n',n',n',n',n',n',n',n',n',n',n',n',n',n',n',n',n',n',n',n',n',n',n',n',n',n',n',n',n'] rfl rfl (any_of HT_.out (by kernel_rfl)) (fun _ _ _ h=>h) (Or.inl ⟨by rfl,?_⟩) ?_ ?_
        rotate_left
        ·intro w'
         go_simp
         with_reducible rfl
        rotate_left
        ·simp only [Act.put,List.setIfInBounds_toArray,List.set_cons_zero,List.set_cons_succ,i64_w,i32_w]
         rfl
        refine pure_ (i:=5) (N:=some 18) (v:=?_) (a':=?_) #[y',y',y',y',y',y',n',n',n',n',n',n',n',n',n',n',n',n',n',n',n',n',n',n',n',n',n',n',n',n',n',n',n',n',n',n',n',n',n',n',n',n',n',n',n',n',n',n',n',n',n',n',n',n'] rfl rfl (any_of HT_.out (by kernel_rfl)) (fun _ _ _ h=>h) (Or.inl ⟨by rfl,?_⟩) ?_ ?_
        rotate_left
        ·intro w'
         go_simp
         with_reducible rfl
        rotate_left
        ·simp only [Act.put,List.setIfInBounds_toArray,List.set_cons_zero,List.set_cons_succ,i64_w,i32_w]
         rfl
        refine pure_ (i:=6) (N:=some 19) (v:=?_) (a':=?_) #[y',y',y',y',y',y',y',n',n',n',n',n',n',n',n',n',n',n',n',n',n',n',n',n',n',n',n',n',n',n',n',n',n',n',n',n',n',n',n',n',n',n',n',n',n',n',n',n',n',n',n',n',n',n'] rfl rfl (any_of HT_.out (by kernel_rfl)) (fun _ _ _ h=>h) (Or.inl ⟨by rfl,?_⟩) ?_ ?_
        rotate_left
        ·intro w'
         go_simp
         with_reducible rfl
        rotate_left
        ·simp only [Act.put,List.setIfInBounds_toArray,List.set_cons_zero,List.set_cons_succ,i64_w,i32_w]
         rfl
        refine pure_ (i:=7) (N:=some 20) (v:=?_) (a':=?_) #[y',y',y',y',y',y',y',y',n',n',n',n',n',n',n',n',n',n',n',n',n',n',n',n',n',n',n',n',n',n',n',n',n',n',n',n',n',n',n',n',n',n',n',n',n',n',n',n',n',n',n',n',n',n'] rfl rfl (any_of HT_.out (by kernel_rfl)) (fun _ _ _ h=>h) (Or.inl ⟨by rfl,?_⟩) ?_ ?_
        rotate_left
        ·intro w'
         go_simp
         with_reducible rfl
        rotate_left
        ·simp only [Act.put,List.setIfInBounds_toArray,List.set_cons_zero,List.set_cons_succ,i64_w,i32_w]
         rfl
        refine pure_ (i:=8) (N:=some 21) (v:=?_) (a':=?_) #[y',y',y',y',y',y',y',y',y',n',n',n',n',n',n',n',n',n',n',n',n',n',n',n',n',n',n',n',n',n',n',n',n',n',n',n',n',n',n',n',n',n',n',n',n',n',n',n',n',n',n',n',n',n'] rfl rfl (any_of HT_.out (by kernel_rfl)) (fun _ _ _ h=>h) (Or.inl ⟨by rfl,?_⟩) ?_ ?_
        rotate_left
        ·intro w'
         go_simp
         with_reducible rfl
        rotate_left
        ·simp only [Act.put,List.setIfInBounds_toArray,List.set_cons_zero,List.set_cons_succ,i64_w,i32_w]
         rfl
        refine take_ (i:=9) (N:=some 22) (v:=?_) (a':=?_) #[y',y',y',y',y',y',y',y',y',y',n',n',n',n',n',n',n',n',n',n',n',n',n',n',n',n',n',n',n',n',n',n',n',n',n',n',n',n',n',n',n',n',n',n',n',n',n',n',n',n',n',n',n',n'] rfl rfl (take_ofW HT_.out HW_.out (by kernel_rfl)) (fun _ _ _ h=>h) (Or.inl ⟨by rfl,?_⟩) hHeld ?_ ?_
        rotate_left
        ·rintro w' ⟨s0,s1⟩
         go_simp
         with_reducible rfl
        rotate_left
        ·simp only [Act.put,List.setIfInBounds_toArray,List.set_cons_zero,List.set_cons_succ,i64_w,i32_w]
         rfl
        refine pure_ (i:=10) (N:=some 23) (v:=?_) (a':=?_) #[y',y',y',y',y',y',y',y',y',y',y',n',n',n',n',n',n',n',n',n',n',n',n',n',n',n',n',n',n',n',n',n',n',n',n',n',n',n',n',n',n',n',n',n',n',n',n',n',n',n',n',n',n',n'] rfl rfl (any_of HT_.out (by kernel_rfl)) (fun _ _ _ h=>h) (Or.inl ⟨by rfl,?_⟩) ?_ ?_
        rotate_left
        ·intro w'
         go_simp
         with_reducible rfl
        rotate_left
        ·simp only [Act.put,List.setIfInBounds_toArray,List.set_cons_zero,List.set_cons_succ,i64_w,i32_w]
         rfl
        refine pure_ (i:=11) (N:=some 24) (v:=?_) (a':=?_) #[y',y',y',y',y',y',y',y',y',y',y',y',n',n',n',n',n',n',n',n',n',n',n',n',n',n',n',n',n',n',n',n',n',n',n',n',n',n',n',n',n',n',n',n',n',n',n',n',n',n',n',n',n',n'] rfl rfl (any_of HT_.out (by kernel_rfl)) (fun _ _ _ h=>h) (Or.inl ⟨by rfl,?_⟩) ?_ ?_
        rotate_left
        ·intro w'
         go_simp
         with_reducible rfl
        rotate_left
        ·simp only [Act.put,List.setIfInBounds_toArray,List.set_cons_zero,List.set_cons_succ,i64_w,i32_w]
         rfl
        refine pure_ (i:=12) (N:=some 25) (v:=?_) (a':=?_) #[y',y',y',y',y',y',y',y',y',y',y',y',y',n',n',n',n',n',n',n',n',n',n',n',n',n',n',n',n',n',n',n',n',n',n',n',n',n',n',n',n',n',n',n',n',n',n',n',n',n',n',n',n',n'] rfl rfl (any_of HT_.out (by kernel_rfl)) (fun _ _ _ h=>h) (Or.inl ⟨by rfl,?_⟩) ?_ ?_
        rotate_left
        ·intro w'
         go_simp
         with_reducible rfl
        rotate_left
        ·simp only [Act.put,List.setIfInBounds_toArray,List.set_cons_zero,List.set_cons_succ,i64_w,i32_w]
         rfl
        refine pure_ (i:=13) (N:=some 26) (v:=undef) (a':=?_) #[y',y',y',y',y',y',y',y',y',y',y',y',y',y',n',n',n',n',n',n',n',n',n',n',n',n',n',n',n',n',n',n',n',n',n',n',n',n',n',n',n',n',n',n',n',n',n',n',n',n',n',n',n',n'] rfl rfl (any_of HT_.out (by kernel_rfl)) (fun _ _ _ h=>h) (Or.inr ⟨by rfl,rfl⟩) ?_ ?_
        rotate_left
        ·simp only [Act.put,List.setIfInBounds_toArray,List.set_cons_zero,List.set_cons_succ,i64_w,i32_w]
         rfl
        refine pure_ (i:=14) (N:=some 27) (v:=undef) (a':=?_) #[y',y',y',y',y',y',y',y',y',y',y',y',y',y',y',n',n',n',n',n',n',n',n',n',n',n',n',n',n',n',n',n',n',n',n',n',n',n',n',n',n',n',n',n',n',n',n',n',n',n',n',n',n',n'] rfl rfl (any_of HT_.out (by kernel_rfl)) (fun _ _ _ h=>h) (Or.inr ⟨by rfl,rfl⟩) ?_ ?_
        rotate_left
        ·simp only [Act.put,List.setIfInBounds_toArray,List.set_cons_zero,List.set_cons_succ,i64_w,i32_w]
         rfl
        refine pure_ (i:=15) (N:=some 28) (v:=undef) (a':=?_) #[y',y',y',y',y',y',y',y',y',y',y',y',y',y',y',y',n',n',n',n',n',n',n',n',n',n',n',n',n',n',n',n',n',n',n',n',n',n',n',n',n',n',n',n',n',n',n',n',n',n',n',n',n',n'] rfl rfl (any_of HT_.out (by kernel_rfl)) (fun _ _ _ h=>h) (Or.inr ⟨by rfl,rfl⟩) ?_ ?_
        rotate_left
        ·simp only [Act.put,List.setIfInBounds_toArray,List.set_cons_zero,List.set_cons_succ,i64_w,i32_w]
         rfl
        refine pure_ (i:=16) (N:=some 29) (v:=undef) (a':=?_) #[y',y',y',y',y',y',y',y',y',y',y',y',y',y',y',y',y',n',n',n',n',n',n',n',n',n',n',n',n',n',n',n',n',n',n',n',n',n',n',n',n',n',n',n',n',n',n',n',n',n',n',n',n',n'] rfl rfl (any_of HT_.out (by kernel_rfl)) (fun _ _ _ h=>h) (Or.inr ⟨by rfl,rfl⟩) ?_ ?_
        rotate_left
        ·simp only [Act.put,List.setIfInBounds_toArray,List.set_cons_zero,List.set_cons_succ,i64_w,i32_w]
         rfl
        refine pure_ (i:=17) (N:=some 30) (v:=undef) (a':=?_) #[y',y',y',y',y',y',y',y',y',y',y',y',y',y',y',y',y',y',n',n',n',n',n',n',n',n',n',n',n',n',n',n',n',n',n',n',n',n',n',n',n',n',n',n',n',n',n',n',n',n',n',n',n',n'] rfl rfl (any_of HT_.out (by kernel_rfl)) (fun _ _ _ h=>h) (Or.inr ⟨by rfl,rfl⟩) ?_ ?_
        rotate_left
        ·simp only [Act.put,List.setIfInBounds_toArray,List.set_cons_zero,List.set_cons_succ,i64_w,i32_w]
         rfl
        refine pure_ (i:=18) (N:=some 31) (v:=?_) (a':=?_) #[y',y',y',y',y',y',y',y',y',y',y',y',y',y',y',y',y',y',y',n',n',n',n',n',n',n',n',n',n',n',n',n',n',n',n',n',n',n',n',n',n',n',n',n',n',n',n',n',n',n',n',n',n',n'] rfl rfl (any_of HT_.out (by kernel_rfl)) (fun _ _ _ h=>h) (Or.inl ⟨by rfl,?_⟩) ?_ ?_
        rotate_left
        ·intro w'
         go_simp
         with_reducible rfl
        rotate_left
        ·simp only [Act.put,List.setIfInBounds_toArray,List.set_cons_zero,List.set_cons_succ,i64_w,i32_w]
         rfl
        refine pure_ (i:=19) (N:=some 32) (v:=?_) (a':=?_) #[y',y',y',y',y',y',y',y',y',y',y',y',y',y',y',y',y',y',y',y',n',n',n',n',n',n',n',n',n',n',n',n',n',n',n',n',n',n',n',n',n',n',n',n',n',n',n',n',n',n',n',n',n',n'] rfl rfl (any_of HT_.out (by kernel_rfl)) (fun _ _ _ h=>h) (Or.inl ⟨by rfl,?_⟩) ?_ ?_
        rotate_left
        ·intro w'
         go_simp
         with_reducible rfl
        rotate_left
        ·simp only [Act.put,List.setIfInBounds_toArray,List.set_cons_zero,List.set_cons_succ,i64_w,i32_w]
         rfl
        refine pure_ (i:=20) (N:=some 33) (v:=undef) (a':=?_) #[y',y',y',y',y',y',y',y',y',y',y',y',y',y',y',y',y',y',y',y',y',n',n',n',n',n',n',n',n',n',n',n',n',n',n',n',n',n',n',n',n',n',n',n',n',n',n',n',n',n',n',n',n',n'] rfl rfl (any_of HT_.out (by kernel_rfl)) (fun _ _ _ h=>h) (Or.inr ⟨by rfl,rfl⟩) ?_ ?_
        rotate_left
        ·simp only [Act.put,List.setIfInBounds_toArray,List.set_cons_zero,List.set_cons_succ,i64_w,i32_w]
         rfl
        refine pure_ (i:=21) (N:=some 34) (v:=undef) (a':=?_) #[y',y',y',y',y',y',y',y',y',y',y',y',y',y',y',y',y',y',y',y',y',y',n',n',n',n',n',n',n',n',n',n',n',n',n',n',n',n',n',n',n',n',n',n',n',n',n',n',n',n',n',n',n',n'] rfl rfl (any_of HT_.out (by kernel_rfl)) (fun _ _ _ h=>h) (Or.inr ⟨by rfl,rfl⟩) ?_ ?_
        rotate_left
        ·simp only [Act.put,List.setIfInBounds_toArray,List.set_cons_zero,List.set_cons_succ,i64_w,i32_w]
         rfl
        refine pure_ (i:=22) (N:=some 35) (v:=undef) (a':=?_) #[y',y',y',y',y',y',y',y',y',y',y',y',y',y',y',y',y',y',y',y',y',y',y',n',n',n',n',n',n',n',n',n',n',n',n',n',n',n',n',n',n',n',n',n',n',n',n',n',n',n',n',n',n',n'] rfl rfl (any_of HT_.out (by kernel_rfl)) (fun _ _ _ h=>h) (Or.inr ⟨by rfl,rfl⟩) ?_ ?_
        rotate_left
        ·simp only [Act.put,List.setIfInBounds_toArray,List.set_cons_zero,List.set_cons_succ,i64_w,i32_w]
         rfl
        refine pure_ (i:=23) (N:=some 36) (v:=undef) (a':=?_) #[y',y',y',y',y',y',y',y',y',y',y',y',y',y',y',y',y',y',y',y',y',y',y',y',n',n',n',n',n',n',n',n',n',n',n',n',n',n',n',n',n',n',n',n',n',n',n',n',n',n',n',n',n',n'] rfl rfl (any_of HT_.out (by kernel_rfl)) (fun _ _ _ h=>h) (Or.inr ⟨by rfl,rfl⟩) ?_ ?_
        rotate_left
        ·simp only [Act.put,List.setIfInBounds_toArray,List.set_cons_zero,List.set_cons_succ,i64_w,i32_w]
         rfl
        refine pure_ (i:=24) (N:=some 37) (v:=undef) (a':=?_) #[y',y',y',y',y',y',y',y',y',y',y',y',y',y',y',y',y',y',y',y',y',y',y',y',y',n',n',n',n',n',n',n',n',n',n',n',n',n',n',n',n',n',n',n',n',n',n',n',n',n',n',n',n',n'] rfl rfl (any_of HT_.out (by kernel_rfl)) (fun _ _ _ h=>h) (Or.inr ⟨by rfl,rfl⟩) ?_ ?_
        rotate_left
        ·simp only [Act.put,List.setIfInBounds_toArray,List.set_cons_zero,List.set_cons_succ,i64_w,i32_w]
         rfl
        refine pure_ (i:=25) (N:=some 38) (v:=?_) (a':=?_) #[y',y',y',y',y',y',y',y',y',y',y',y',y',y',y',y',y',y',y',y',y',y',y',y',y',y',n',n',n',n',n',n',n',n',n',n',n',n',n',n',n',n',n',n',n',n',n',n',n',n',n',n',n',n'] rfl rfl (any_of HT_.out (by kernel_rfl)) (fun _ _ _ h=>h) (Or.inl ⟨by rfl,?_⟩) ?_ ?_
        rotate_left
        ·intro w'
         go_simp
         with_reducible rfl
        rotate_left
        ·simp only [Act.put,List.setIfInBounds_toArray,List.set_cons_zero,List.set_cons_succ,i64_w,i32_w]
         rfl
        refine pure_ (i:=26) (N:=some 39) (v:=?_) (a':=?_) #[y',y',y',y',y',y',y',y',y',y',y',y',y',y',y',y',y',y',y',y',y',y',y',y',y',y',y',n',n',n',n',n',n',n',n',n',n',n',n',n',n',n',n',n',n',n',n',n',n',n',n',n',n',n'] rfl rfl (any_of HT_.out (by kernel_rfl)) (fun _ _ _ h=>h) (Or.inl ⟨by rfl,?_⟩) ?_ ?_
        rotate_left
        ·intro w'
         go_simp
         with_reducible rfl
        rotate_left
        ·simp only [Act.put,List.setIfInBounds_toArray,List.set_cons_zero,List.set_cons_succ,i64_w,i32_w]
         rfl
        refine pure_ (i:=27) (N:=some 40) (v:=undef) (a':=?_) #[y',y',y',y',y',y',y',y',y',y',y',y',y',y',y',y',y',y',y',y',y',y',y',y',y',y',y',y',n',n',n',n',n',n',n',n',n',n',n',n',n',n',n',n',n',n',n',n',n',n',n',n',n',n'] rfl rfl (any_of HT_.out (by kernel_rfl)) (fun _ _ _ h=>h) (Or.inr ⟨by rfl,rfl⟩) ?_ ?_
        rotate_left
        ·simp only [Act.put,List.setIfInBounds_toArray,List.set_cons_zero,List.set_cons_succ,i64_w,i32_w]
         rfl
        refine pure_ (i:=28) (N:=some 41) (v:=undef) (a':=?_) #[y',y',y',y',y',y',y',y',y',y',y',y',y',y',y',y',y',y',y',y',y',y',y',y',y',y',y',y',y',n',n',n',n',n',n',n',n',n',n',n',n',n',n',n',n',n',n',n',n',n',n',n',n',n'] rfl rfl (any_of HT_.out (by kernel_rfl)) (fun _ _ _ h=>h) (Or.inr ⟨by rfl,rfl⟩) ?_ ?_
        rotate_left
        ·simp only [Act.put,List.setIfInBounds_toArray,List.set_cons_zero,List.set_cons_succ,i64_w,i32_w]
         rfl
        refine pure_ (i:=29) (N:=some 42) (v:=undef) (a':=?_) #[y',y',y',y',y',y',y',y',y',y',y',y',y',y',y',y',y',y',y',y',y',y',y',y',y',y',y',y',y',y',n',n',n',n',n',n',n',n',n',n',n',n',n',n',n',n',n',n',n',n',n',n',n',n'] rfl rfl (any_of HT_.out (by kernel_rfl)) (fun _ _ _ h=>h) (Or.inr ⟨by rfl,rfl⟩) ?_ ?_
        rotate_left
        ·simp only [Act.put,List.setIfInBounds_toArray,List.set_cons_zero,List.set_cons_succ,i64_w,i32_w]
         rfl
        refine pure_ (i:=30) (N:=some 43) (v:=undef) (a':=?_) #[y',y',y',y',y',y',y',y',y',y',y',y',y',y',y',y',y',y',y',y',y',y',y',y',y',y',y',y',y',y',y',n',n',n',n',n',n',n',n',n',n',n',n',n',n',n',n',n',n',n',n',n',n',n'] rfl rfl (any_of HT_.out (by kernel_rfl)) (fun _ _ _ h=>h) (Or.inr ⟨by rfl,rfl⟩) ?_ ?_
        rotate_left
        ·simp only [Act.put,List.setIfInBounds_toArray,List.set_cons_zero,List.set_cons_succ,i64_w,i32_w]
         rfl
        refine pure_ (i:=31) (N:=some 44) (v:=undef) (a':=?_) #[y',y',y',y',y',y',y',y',y',y',y',y',y',y',y',y',y',y',y',y',y',y',y',y',y',y',y',y',y',y',y',y',n',n',n',n',n',n',n',n',n',n',n',n',n',n',n',n',n',n',n',n',n',n'] rfl rfl (any_of HT_.out (by kernel_rfl)) (fun _ _ _ h=>h) (Or.inr ⟨by rfl,rfl⟩) ?_ ?_
        rotate_left
        ·simp only [Act.put,List.setIfInBounds_toArray,List.set_cons_zero,List.set_cons_succ,i64_w,i32_w]
         rfl
        refine pure_ (i:=32) (N:=some 45) (v:=undef) (a':=?_) #[y',y',y',y',y',y',y',y',y',y',y',y',y',y',y',y',y',y',y',y',y',y',y',y',y',y',y',y',y',y',y',y',y',n',n',n',n',n',n',n',n',n',n',n',n',n',n',n',n',n',n',n',n',n'] rfl rfl (any_of HT_.out (by kernel_rfl)) (fun _ _ _ h=>h) (Or.inr ⟨by rfl,rfl⟩) ?_ ?_
        rotate_left
        ·simp only [Act.put,List.setIfInBounds_toArray,List.set_cons_zero,List.set_cons_succ,i64_w,i32_w]
         rfl
        refine pure_ (i:=33) (N:=some 46) (v:=undef) (a':=?_) #[y',y',y',y',y',y',y',y',y',y',y',y',y',y',y',y',y',y',y',y',y',y',y',y',y',y',y',y',y',y',y',y',y',y',n',n',n',n',n',n',n',n',n',n',n',n',n',n',n',n',n',n',n',n'] rfl rfl (any_of HT_.out (by kernel_rfl)) (fun _ _ _ h=>h) (Or.inr ⟨by rfl,rfl⟩) ?_ ?_
        rotate_left
        ·simp only [Act.put,List.setIfInBounds_toArray,List.set_cons_zero,List.set_cons_succ,i64_w,i32_w]
         rfl
        refine pure_ (i:=34) (N:=some 47) (v:=undef) (a':=?_) #[y',y',y',y',y',y',y',y',y',y',y',y',y',y',y',y',y',y',y',y',y',y',y',y',y',y',y',y',y',y',y',y',y',y',y',n',n',n',n',n',n',n',n',n',n',n',n',n',n',n',n',n',n',n'] rfl rfl (any_of HT_.out (by kernel_rfl)) (fun _ _ _ h=>h) (Or.inr ⟨by rfl,rfl⟩) ?_ ?_
        rotate_left
        ·simp only [Act.put,List.setIfInBounds_toArray,List.set_cons_zero,List.set_cons_succ,i64_w,i32_w]
         rfl
        refine pure_ (i:=35) (N:=some 48) (v:=undef) (a':=?_) #[y',y',y',y',y',y',y',y',y',y',y',y',y',y',y',y',y',y',y',y',y',y',y',y',y',y',y',y',y',y',y',y',y',y',y',y',n',n',n',n',n',n',n',n',n',n',n',n',n',n',n',n',n',n'] rfl rfl (any_of HT_.out (by kernel_rfl)) (fun _ _ _ h=>h) (Or.inr ⟨by rfl,rfl⟩) ?_ ?_
        rotate_left
        ·simp only [Act.put,List.setIfInBounds_toArray,List.set_cons_zero,List.set_cons_succ,i64_w,i32_w]
         rfl
        refine pure_ (i:=36) (N:=some 49) (v:=?_) (a':=?_) #[y',y',y',y',y',y',y',y',y',y',y',y',y',y',y',y',y',y',y',y',y',y',y',y',y',y',y',y',y',y',y',y',y',y',y',y',y',n',n',n',n',n',n',n',n',n',n',n',n',n',n',n',n',n'] rfl rfl (any_of HT_.out (by kernel_rfl)) (fun _ _ _ h=>h) (Or.inl ⟨by rfl,?_⟩) ?_ ?_
        rotate_left
        ·intro w'
         go_simp
         with_reducible rfl
        rotate_left
        ·simp only [Act.put,List.setIfInBounds_toArray,List.set_cons_zero,List.set_cons_succ,i64_w,i32_w]
         rfl
        refine pure_ (i:=37) (N:=some 50) (v:=?_) (a':=?_) #[y',y',y',y',y',y',y',y',y',y',y',y',y',y',y',y',y',y',y',y',y',y',y',y',y',y',y',y',y',y',y',y',y',y',y',y',y',y',n',n',n',n',n',n',n',n',n',n',n',n',n',n',n',n'] rfl rfl (any_of HT_.out (by kernel_rfl)) (fun _ _ _ h=>h) (Or.inl ⟨by rfl,?_⟩) ?_ ?_
        rotate_left
        ·intro w'
         go_simp
         with_reducible rfl
        rotate_left
        ·simp only [Act.put,List.setIfInBounds_toArray,List.set_cons_zero,List.set_cons_succ,i64_w,i32_w]
         rfl
        refine pure_ (i:=38) (N:=some 51) (v:=undef) (a':=?_) #[y',y',y',y',y',y',y',y',y',y',y',y',y',y',y',y',y',y',y',y',y',y',y',y',y',y',y',y',y',y',y',y',y',y',y',y',y',y',y',n',n',n',n',n',n',n',n',n',n',n',n',n',n',n'] rfl rfl (any_of HT_.out (by kernel_rfl)) (fun _ _ _ h=>h) (Or.inr ⟨by rfl,rfl⟩) ?_ ?_
        rotate_left
        ·simp only [Act.put,List.setIfInBounds_toArray,List.set_cons_zero,List.set_cons_succ,i64_w,i32_w]
         rfl
        refine pure_ (i:=39) (N:=some 52) (v:=undef) (a':=?_) #[y',y',y',y',y',y',y',y',y',y',y',y',y',y',y',y',y',y',y',y',y',y',y',y',y',y',y',y',y',y',y',y',y',y',y',y',y',y',y',y',n',n',n',n',n',n',n',n',n',n',n',n',n',n'] rfl rfl (any_of HT_.out (by kernel_rfl)) (fun _ _ _ h=>h) (Or.inr ⟨by rfl,rfl⟩) ?_ ?_
        rotate_left
        ·simp only [Act.put,List.setIfInBounds_toArray,List.set_cons_zero,List.set_cons_succ,i64_w,i32_w]
         rfl
        refine pure_ (i:=40) (N:=some 53) (v:=undef) (a':=?_) #[y',y',y',y',y',y',y',y',y',y',y',y',y',y',y',y',y',y',y',y',y',y',y',y',y',y',y',y',y',y',y',y',y',y',y',y',y',y',y',y',y',n',n',n',n',n',n',n',n',n',n',n',n',n'] rfl rfl (any_of HT_.out (by kernel_rfl)) (fun _ _ _ h=>h) (Or.inr ⟨by rfl,rfl⟩) ?_ ?_
        rotate_left
        ·simp only [Act.put,List.setIfInBounds_toArray,List.set_cons_zero,List.set_cons_succ,i64_w,i32_w]
         rfl
        refine pure_ (i:=41) (N:=some 54) (v:=undef) (a':=?_) #[y',y',y',y',y',y',y',y',y',y',y',y',y',y',y',y',y',y',y',y',y',y',y',y',y',y',y',y',y',y',y',y',y',y',y',y',y',y',y',y',y',y',n',n',n',n',n',n',n',n',n',n',n',n'] rfl rfl (any_of HT_.out (by kernel_rfl)) (fun _ _ _ h=>h) (Or.inr ⟨by rfl,rfl⟩) ?_ ?_
        rotate_left
        ·simp only [Act.put,List.setIfInBounds_toArray,List.set_cons_zero,List.set_cons_succ,i64_w,i32_w]
         rfl
        refine pure_ (i:=42) (N:=some 55) (v:=undef) (a':=?_) #[y',y',y',y',y',y',y',y',y',y',y',y',y',y',y',y',y',y',y',y',y',y',y',y',y',y',y',y',y',y',y',y',y',y',y',y',y',y',y',y',y',y',y',n',n',n',n',n',n',n',n',n',n',n'] rfl rfl (any_of HT_.out (by kernel_rfl)) (fun _ _ _ h=>h) (Or.inr ⟨by rfl,rfl⟩) ?_ ?_
        rotate_left
        ·simp only [Act.put,List.setIfInBounds_toArray,List.set_cons_zero,List.set_cons_succ,i64_w,i32_w]
         rfl
        refine pure_ (i:=43) (N:=some 56) (v:=undef) (a':=?_) #[y',y',y',y',y',y',y',y',y',y',y',y',y',y',y',y',y',y',y',y',y',y',y',y',y',y',y',y',y',y',y',y',y',y',y',y',y',y',y',y',y',y',y',y',n',n',n',n',n',n',n',n',n',n'] rfl rfl (any_of HT_.out (by kernel_rfl)) (fun _ _ _ h=>h) (Or.inr ⟨by rfl,rfl⟩) ?_ ?_
        rotate_left
        ·simp only [Act.put,List.setIfInBounds_toArray,List.set_cons_zero,List.set_cons_succ,i64_w,i32_w]
         rfl
        refine pure_ (i:=44) (N:=some 57) (v:=undef) (a':=?_) #[y',y',y',y',y',y',y',y',y',y',y',y',y',y',y',y',y',y',y',y',y',y',y',y',y',y',y',y',y',y',y',y',y',y',y',y',y',y',y',y',y',y',y',y',y',n',n',n',n',n',n',n',n',n'] rfl rfl (any_of HT_.out (by kernel_rfl)) (fun _ _ _ h=>h) (Or.inr ⟨by rfl,rfl⟩) ?_ ?_
        rotate_left
        ·simp only [Act.put,List.setIfInBounds_toArray,List.set_cons_zero,List.set_cons_succ,i64_w,i32_w]
         rfl
        refine pure_ (i:=45) (N:=some 58) (v:=undef) (a':=?_) #[y',y',y',y',y',y',y',y',y',y',y',y',y',y',y',y',y',y',y',y',y',y',y',y',y',y',y',y',y',y',y',y',y',y',y',y',y',y',y',y',y',y',y',y',y',y',n',n',n',n',n',n',n',n'] rfl rfl (any_of HT_.out (by kernel_rfl)) (fun _ _ _ h=>h) (Or.inr ⟨by rfl,rfl⟩) ?_ ?_
        rotate_left
        ·simp only [Act.put,List.setIfInBounds_toArray,List.set_cons_zero,List.set_cons_succ,i64_w,i32_w]
         rfl
        refine pure_ (i:=46) (N:=some 59) (v:=undef) (a':=?_) #[y',y',y',y',y',y',y',y',y',y',y',y',y',y',y',y',y',y',y',y',y',y',y',y',y',y',y',y',y',y',y',y',y',y',y',y',y',y',y',y',y',y',y',y',y',y',y',n',n',n',n',n',n',n'] rfl rfl (any_of HT_.out (by kernel_rfl)) (fun _ _ _ h=>h) (Or.inr ⟨by rfl,rfl⟩) ?_ ?_
        rotate_left
        ·simp only [Act.put,List.setIfInBounds_toArray,List.set_cons_zero,List.set_cons_succ,i64_w,i32_w]
         rfl
        refine pure_ (i:=47) (N:=some 60) (v:=undef) (a':=?_) #[y',y',y',y',y',y',y',y',y',y',y',y',y',y',y',y',y',y',y',y',y',y',y',y',y',y',y',y',y',y',y',y',y',y',y',y',y',y',y',y',y',y',y',y',y',y',y',y',n',n',n',n',n',n'] rfl rfl (any_of HT_.out (by kernel_rfl)) (fun _ _ _ h=>h) (Or.inr ⟨by rfl,rfl⟩) ?_ ?_
        rotate_left
        ·simp only [Act.put,List.setIfInBounds_toArray,List.set_cons_zero,List.set_cons_succ,i64_w,i32_w]
         rfl
        refine pure_ (i:=48) (N:=some 61) (v:=undef) (a':=?_) #[y',y',y',y',y',y',y',y',y',y',y',y',y',y',y',y',y',y',y',y',y',y',y',y',y',y',y',y',y',y',y',y',y',y',y',y',y',y',y',y',y',y',y',y',y',y',y',y',y',n',n',n',n',n'] rfl rfl (any_of HT_.out (by kernel_rfl)) (fun _ _ _ h=>h) (Or.inr ⟨by rfl,rfl⟩) ?_ ?_
        rotate_left
        ·simp only [Act.put,List.setIfInBounds_toArray,List.set_cons_zero,List.set_cons_succ,i64_w,i32_w]
         rfl
        refine pure_ (i:=49) (N:=some 62) (v:=undef) (a':=?_) #[y',y',y',y',y',y',y',y',y',y',y',y',y',y',y',y',y',y',y',y',y',y',y',y',y',y',y',y',y',y',y',y',y',y',y',y',y',y',y',y',y',y',y',y',y',y',y',y',y',y',n',n',n',n'] rfl rfl (any_of HT_.out (by kernel_rfl)) (fun _ _ _ h=>h) (Or.inr ⟨by rfl,rfl⟩) ?_ ?_
        rotate_left
        ·simp only [Act.put,List.setIfInBounds_toArray,List.set_cons_zero,List.set_cons_succ,i64_w,i32_w]
         rfl
        refine pure_ (i:=50) (N:=some 63) (v:=undef) (a':=?_) #[y',y',y',y',y',y',y',y',y',y',y',y',y',y',y',y',y',y',y',y',y',y',y',y',y',y',y',y',y',y',y',y',y',y',y',y',y',y',y',y',y',y',y',y',y',y',y',y',y',y',y',n',n',n'] rfl rfl (any_of HT_.out (by kernel_rfl)) (fun _ _ _ h=>h) (Or.inr ⟨by rfl,rfl⟩) ?_ ?_
        rotate_left
        ·simp only [Act.put,List.setIfInBounds_toArray,List.set_cons_zero,List.set_cons_succ,i64_w,i32_w]
         rfl
        refine pure_ (i:=51) (N:=some 64) (v:=undef) (a':=?_) #[y',y',y',y',y',y',y',y',y',y',y',y',y',y',y',y',y',y',y',y',y',y',y',y',y',y',y',y',y',y',y',y',y',y',y',y',y',y',y',y',y',y',y',y',y',y',y',y',y',y',y',y',n',n'] rfl rfl (any_of HT_.out (by kernel_rfl)) (fun _ _ _ h=>h) (Or.inr ⟨by rfl,rfl⟩) ?_ ?_
        rotate_left
        ·simp only [Act.put,List.setIfInBounds_toArray,List.set_cons_zero,List.set_cons_succ,i64_w,i32_w]
         rfl
        refine pure_ (i:=52) (N:=some 65) (v:=undef) (a':=?_) #[y',y',y',y',y',y',y',y',y',y',y',y',y',y',y',y',y',y',y',y',y',y',y',y',y',y',y',y',y',y',y',y',y',y',y',y',y',y',y',y',y',y',y',y',y',y',y',y',y',y',y',y',y',n'] rfl rfl (any_of HT_.out (by kernel_rfl)) (fun _ _ _ h=>h) (Or.inr ⟨by rfl,rfl⟩) ?_ ?_
        rotate_left
        ·simp only [Act.put,List.setIfInBounds_toArray,List.set_cons_zero,List.set_cons_succ,i64_w,i32_w]
         rfl
        refine pure_ (i:=53) (N:=some 66) (v:=?_) (a':=?_) #[y',y',y',y',y',y',y',y',y',y',y',y',y',y',y',y',y',y',y',y',y',y',y',y',y',y',y',y',y',y',y',y',y',y',y',y',y',y',y',y',y',y',y',y',y',y',y',y',y',y',y',y',y',y'] rfl rfl (any_of HT_.out (by kernel_rfl)) (fun _ _ _ h=>h) (Or.inl ⟨by rfl,?_⟩) ?_ ?_
        rotate_left
        ·intro w'
         go_simp
         with_reducible rfl
        rotate_left
        ·simp only [Act.put,List.setIfInBounds_toArray,List.set_cons_zero,List.set_cons_succ,i64_w,i32_w]
         rfl
        refine done_ (done_of HT_.out (by kernel_rfl)) ?_
        try go_wp2
        go_ret
        exact ⟨by first|rfl|(simp [errW_none,errW_some] <;> rfl)|(simp [*,errW_none,errW_some] <;> rfl),by repeat (first|(with_reducible first|exact HB.out|apply zA|apply zB|apply zC|refine zF ?_ GE248.out)|exact HB.out)⟩
       ·rw [if_neg c10] at H;have c10b0 : decide (3 < (rd l1 x10_1)) = false:=decide_eq_false c10;clear c10;by_cases c12 : x10_1 < (l2.length : Int)
        ·rw [if_pos c12] at H;have c12b0 : decide (x10_1 < (l2.length : Int)) = true:=decide_eq_true c12;clear c12;by_cases c13 : (rd l2 x10_1) < (-1)
         ·rw [if_pos c13] at H;have c13b0 : decide ((rd l2 x10_1) < (-1)) = true:=decide_eq_true c13;clear c13;obtain rfl:=Option.some.inj H;try go_wp2
          have n0_:=zm (zI BK248.out);have n1_:=zm (zC HB.out);clear BK248;clear HB;have BK248:=n0_;have HB:=n1_;clear n0_ n1_;have p249 : 0 ≤ (x10_1 : Int):=of_decide_eq_true (by first|(with_reducible assumption)|assumption)
          have q249 : x10_1 < (l1.length : Int):=of_decide_eq_true (by first|(with_reducible assumption)|assumption)
          obtain ⟨ad249,e249,hx249_0⟩:=Kd.at_int HR1.out x10_1 p249 q249;have hw249_0:=hx249_0;cases e249;replace hx249_0:=(HB.out.cell (World.block_lt_of_cell? w _ hx249_0)).trans hx249_0;replace p249:=eq_true p249;replace q249:=eq_true q249;have p250 : 0 ≤ (x10_1 : Int):=of_decide_eq_true (by first|(with_reducible assumption)|assumption)
          have q250 : x10_1 < (l1.length : Int):=of_decide_eq_true (by first|(with_reducible assumption)|assumption)
          obtain ⟨ad250,e250,hx250_0⟩:=Kd.at_int HR1.out x10_1 p250 q250;have hw250_0:=hx250_0;obtain rfl : ad249 = ad250:=(by injection e250)
          replace hx250_0:=(HB.out.cell (World.block_lt_of_cell? w _ hx250_0)).trans hx250_0;replace p250:=eq_true p250;replace q250:=eq_true q250;have p251 : 0 ≤ (x10_1 : Int):=of_decide_eq_true (by first|(with_reducible assumption)|assumption)
          have q251 : x10_1 < (l2.length : Int):=of_decide_eq_true (by first|(with_reducible assumption)|assumption)
          obtain ⟨ad251,e251,hx251_0⟩:=Kd.at_int HR2.out x10_1 p251 q251;have hw251_0:=hx251_0;cases e251;replace hx251_0:=(HB.out.cell (World.block_lt_of_cell? w _ hx251_0)).trans hx251_0;replace p251:=eq_true p251;replace q251:=eq_true q251;refine start_ (n:=54) (S:=fun w'=>w'.cell? (ad249.add (x10_1).toNat) = some (.int .i64 (rd l1 x10_1))∧w'.cell? (ad249.add (x10_1).toNat) = some (.int .i64 (rd l1 x10_1))∧w'.cell? (ad251.add (x10_1).toNat) = some (.int .i64 (rd l2 x10_1))) (ds:=[]) #[n',n',n',n',n',n',n',n',n',n',n',n',n',n',n',n',n',n',n',n',n',n',n',n',n',n',n',n',n',n',n',n',n',n',n',n',n',n',n',n',n',n',n',n',n',n',n',n',n',n',n',n',n',n'] (by kernel_rfl) rfl rfl ⟨((HB.out.cell (World.block_lt_of_cell? w _ hw249_0)).trans hw249_0),((HB.out.cell (World.block_lt_of_cell? w _ hw250_0)).trans hw250_0),((HB.out.cell (World.block_lt_of_cell? w _ hw251_0)).trans hw251_0)⟩ (fun hHeld=>?_);refine with_tabW laws_wAgrees.tab4 laws_wAgrees.bits4 (fun HT_ HW_=>?_)
          generalize wr.drew = w14 at BK248 HB hx249_0 hx250_0 hx251_0 hHeld ⊢
          refine pure_ (i:=0) (N:=some 13) (v:=?_) (a':=?_) #[y',n',n',n',n',n',n',n',n',n',n',n',n',n',n',n',n',n',n',n',n',n',n',n',n',n',n',n',n',n',n',n',n',n',n',n',n',n',n',n',n',n',n',n',n',n',n',n',n',n',n',n',n',n'] rfl rfl (any_of HT_.out (by kernel_rfl)) (fun _ _ _ h=>h) (Or.inl ⟨by rfl,?_⟩) ?_ ?_
          rotate_left
          ·intro w'
           go_simp
           with_reducible rfl
          rotate_left
          ·simp only [Act.put,List.setIfInBounds_toArray,List.set_cons_zero,List.set_cons_succ,i64_w,i32_w]
           rfl
          refine pure_ (i:=1) (N:=some 14) (v:=?_) (a':=?_) #[y',y',n',n',n',n',n',n',n',n',n',n',n',n',n',n',n',n',n',n',n',n',n',n',n',n',n',n',n',n',n',n',n',n',n',n',n',n',n',n',n',n',n',n',n',n',n',n',n',n',n',n',n',n'] rfl rfl (any_of HT_.out (by kernel_rfl)) (fun _ _ _ h=>h) (Or.inl ⟨by rfl,?_⟩) ?_ ?_
          rotate_left
          ·intro w'
           go_simp
           with_reducible rfl
          rotate_left
          ·simp only [Act.put,List.setIfInBounds_toArray,List.set_cons_zero,List.set_cons_succ,i64_w,i32_w]
           rfl
          refine pure_ (i:=2) (N:=some 15) (v:=?_) (a':=?_) #[y',y',y',n',n',n',n',n',n',n',n',n',n',n',n',n',n',n',n',n',n',n',n',n',n',n',n',n',n',n',n',n',n',n',n',n',n',n',n',n',n',n',n',n',n',n',n',n',n',n',n',n',n',n'] rfl rfl (any_of HT_.out (by kernel_rfl)) (fun _ _ _ h=>h) (Or.inl ⟨by rfl,?_⟩) ?_ ?_
          rotate_left
          ·intro w'
           go_simp
           with_reducible rfl
          rotate_left
          ·simp only [Act.put,List.setIfInBounds_toArray,List.set_cons_zero,List.set_cons_succ,i64_w,i32_w]
           rfl
          refine take_ (i:=3) (N:=some 16) (v:=?_) (a':=?_) #[y',y',y',y',n',n',n',n',n',n',n',n',n',n',n',n',n',n',n',n',n',n',n',n',n',n',n',n',n',n',n',n',n',n',n',n',n',n',n',n',n',n',n',n',n',n',n',n',n',n',n',n',n',n'] rfl rfl (take_ofW HT_.out HW_.out (by kernel_rfl)) (fun _ _ _ h=>h) (Or.inl ⟨by rfl,?_⟩) hHeld ?_ ?_
          rotate_left
          ·rintro w' ⟨s0,s1,s2⟩
           go_simp
           with_reducible rfl
          rotate_left
          ·simp only [Act.put,List.setIfInBounds_toArray,List.set_cons_zero,List.set_cons_succ,i64_w,i32_w]
           rfl
          refine pure_ (i:=4) (N:=some 17) (v:=?_) (a':=?_) #[y',y',y',y',y',n',n',n',n',n',n',n',n',n',n',n',n',n',n',n',n',n',n',n',n',n',n',n',n',n',n',n',n',n',n',n',n',n',n',n',n',n',n',n',n',n',n',n',n',n',n',n',n',n'] rfl rfl (any_of HT_.out (by kernel_rfl)) (fun _ _ _ h=>h) (Or.inl ⟨by rfl,?_⟩) ?_ ?_
          rotate_left
          ·intro w'
           go_simp
           with_reducible rfl
          rotate_left
          ·simp only [Act.put,List.setIfInBounds_toArray,List.set_cons_zero,List.set_cons_succ,i64_w,i32_w]
           rfl
          refine pure_ (i:=5) (N:=some 18) (v:=?_) (a':=?_) #[y',y',y',y',y',y',n',n',n',n',n',n',n',n',n',n',n',n',n',n',n',n',n',n',n',n',n',n',n',n',n',n',n',n',n',n',n',n',n',n',n',n',n',n',n',n',n',n',n',n',n',n',n',n'] rfl rfl (any_of HT_.out (by kernel_rfl)) (fun _ _ _ h=>h) (Or.inl ⟨by rfl,?_⟩) ?_ ?_
          rotate_left
          ·intro w'
           go_simp
           with_reducible rfl
          rotate_left
          ·simp only [Act.put,List.setIfInBounds_toArray,List.set_cons_zero,List.set_cons_succ,i64_w,i32_w]
           rfl
          refine pure_ (i:=6) (N:=some 19) (v:=?_) (a':=?_) #[y',y',y',y',y',y',y',n',n',n',n',n',n',n',n',n',n',n',n',n',n',n',n',n',n',n',n',n',n',n',n',n',n',n',n',n',n',n',n',n',n',n',n',n',n',n',n',n',n',n',n',n',n',n'] rfl rfl (any_of HT_.out (by kernel_rfl)) (fun _ _ _ h=>h) (Or.inl ⟨by rfl,?_⟩) ?_ ?_
          rotate_left
          ·intro w'
           go_simp
           with_reducible rfl
          rotate_left
          ·simp only [Act.put,List.setIfInBounds_toArray,List.set_cons_zero,List.set_cons_succ,i64_w,i32_w]
           rfl
          refine pure_ (i:=7) (N:=some 20) (v:=?_) (a':=?_) #[y',y',y',y',y',y',y',y',n',n',n',n',n',n',n',n',n',n',n',n',n',n',n',n',n',n',n',n',n',n',n',n',n',n',n',n',n',n',n',n',n',n',n',n',n',n',n',n',n',n',n',n',n',n'] rfl rfl (any_of HT_.out (by kernel_rfl)) (fun _ _ _ h=>h) (Or.inl ⟨by rfl,?_⟩) ?_ ?_
          rotate_left
          ·intro w'
           go_simp
           with_reducible rfl
          rotate_left
          ·simp only [Act.put,List.setIfInBounds_toArray,List.set_cons_zero,List.set_cons_succ,i64_w,i32_w]
           rfl
          refine pure_ (i:=8) (N:=some 21) (v:=?_) (a':=?_) #[y',y',y',y',y',y',y',y',y',n',n',n',n',n',n',n',n',n',n',n',n',n',n',n',n',n',n',n',n',n',n',n',n',n',n',n',n',n',n',n',n',n',n',n',n',n',n',n',n',n',n',n',n',n'] rfl rfl (any_of HT_.out (by kernel_rfl)) (fun _ _ _ h=>h) (Or.inl ⟨by rfl,?_⟩) ?_ ?_
          rotate_left
          ·intro w'
           go_simp
           with_reducible rfl
          rotate_left
          ·simp only [Act.put,List.setIfInBounds_toArray,List.set_cons_zero,List.set_cons_succ,i64_w,i32_w]
           rfl
          refine take_ (i:=9) (N:=some 22) (v:=?_) (a':=?_) #[y',y',y',y',y',y',y',y',y',y',n',n',n',n',n',n',n',n',n',n',n',n',n',n',n',n',n',n',n',n',n',n',n',n',n',n',n',n',n',n',n',n',n',n',n',n',n',n',n',n',n',n',n',n'] rfl rfl (take_ofW HT_.out HW_.out (by kernel_rfl)) (fun _ _ _ h=>h) (Or.inl ⟨by rfl,?_⟩) hHeld ?_ ?_
          rotate_left
          ·rintro w' ⟨s0,s1,s2⟩
           go_simp
           with_reducible rfl
          rotate_left
          ·simp only [Act.put,List.setIfInBounds_toArray,List.set_cons_zero,List.set_cons_succ,i64_w,i32_w]
           rfl
          refine pure_ (i:=10) (N:=some 23) (v:=?_) (a':=?_) #[y',y',y',y',y',y',y',y',y',y',y',n',n',n',n',n',n',n',n',n',n',n',n',n',n',n',n',n',n',n',n',n',n',n',n',n',n',n',n',n',n',n',n',n',n',n',n',n',n',n',n',n',n',n'] rfl rfl (any_of HT_.out (by kernel_rfl)) (fun _ _ _ h=>h) (Or.inl ⟨by rfl,?_⟩) ?_ ?_
          rotate_left
          ·intro w'
           go_simp
           with_reducible rfl
          rotate_left
          ·simp only [Act.put,List.setIfInBounds_toArray,List.set_cons_zero,List.set_cons_succ,i64_w,i32_w]
           rfl
          refine pure_ (i:=11) (N:=some 24) (v:=?_) (a':=?_) #[y',y',y',y',y',y',y',y',y',y',y',y',n',n',n',n',n',n',n',n',n',n',n',n',n',n',n',n',n',n',n',n',n',n',n',n',n',n',n',n',n',n',n',n',n',n',n',n',n',n',n',n',n',n'] rfl rfl (any_of HT_.out (by kernel_rfl)) (fun _ _ _ h=>h) (Or.inl ⟨by rfl,?_⟩) ?_ ?_
          rotate_left
          ·intro w'
           go_simp
           with_reducible rfl
          rotate_left
          ·simp only [Act.put,List.setIfInBounds_toArray,List.set_cons_zero,List.set_cons_succ,i64_w,i32_w]
           rfl
          refine pure_ (i:=12) (N:=some 25) (v:=?_) (a':=?_) #[y',y',y',y',y',y',y',y',y',y',y',y',y',n',n',n',n',n',n',n',n',n',n',n',n',n',n',n',n',n',n',n',n',n',n',n',n',n',n',n',n',n',n',n',n',n',n',n',n',n',n',n',n',n'] rfl rfl (any_of HT_.out (by kernel_rfl)) (fun _ _ _ h=>h) (Or.inl ⟨by rfl,?_⟩) ?_ ?_
          rotate_left
          ·intro w'
           go_simp
           with_reducible rfl
          rotate_left
          ·simp only [Act.put,List.setIfInBounds_toArray,List.set_cons_zero,List.set_cons_succ,i64_w,i32_w]
           rfl
          refine pure_ (i:=13) (N:=some 26) (v:=?_) (a':=?_) #[y',y',y',y',y',y',y',y',y',y',y',y',y',y',n',n',n',n',n',n',n',n',n',n',n',n',n',n',n',n',n',n',n',n',n',n',n',n',n',n',n',n',n',n',n',n',n',n',n',n',n',n',n',n'] rfl rfl (any_of HT_.out (by kernel_rfl)) (fun _ _ _ h=>h) (Or.inl ⟨by rfl,?_⟩) ?_ ?_
          rotate_left
          ·intro w'
           go_simp
           with_reducible rfl
          rotate_left
          ·simp only [Act.put,List.setIfInBounds_toArray,List.set_cons_zero,List.set_cons_succ,i64_w,i32_w]
           rfl
          refine pure_ (i:=14) (N:=some 27) (v:=?_) (a':=?_) #[y',y',y',y',y',y',y',y',y',y',y',y',y',y',y',n',n',n',n',n',n',n',n',n',n',n',n',n',n',n',n',n',n',n',n',n',n',n',n',n',n',n',n',n',n',n',n',n',n',n',n',n',n',n'] rfl rfl (any_of HT_.out (by kernel_rfl)) (fun _ _ _ h=>h) (Or.inl ⟨by rfl,?_⟩) ?_ ?_
          rotate_left
          ·intro w'
           go_simp
           with_reducible rfl
          rotate_left
          ·simp only [Act.put,List.setIfInBounds_toArray,List.set_cons_zero,List.set_cons_succ,i64_w,i32_w]
           rfl
          refine pure_ (i:=15) (N:=some 28) (v:=?_) (a':=?_) #[y',y',y',y',y',y',y',y',y',y',y',y',y',y',y',y',n',n',n',n',n',n',n',n',n',n',n',n',n',n',n',n',n',n',n',n',n',n',n',n',n',n',n',n',n',n',n',n',n',n',n',n',n',n'] rfl rfl (any_of HT_.out (by kernel_rfl)) (fun _ _ _ h=>h) (Or.inl ⟨by rfl,?_⟩) ?_ ?_
          rotate_left
          ·intro w'
           go_simp
           with_reducible rfl
          rotate_left
          ·simp only [Act.put,List.setIfInBounds_toArray,List.set_cons_zero,List.set_cons_succ,i64_w,i32_w]
           rfl
          refine take_ (i:=16) (N:=some 29) (v:=?_) (a':=?_) #[y',y',y',y',y',y',y',y',y',y',y',y',y',y',y',y',y',n',n',n',n',n',n',n',n',n',n',n',n',n',n',n',n',n',n',n',n',n',n',n',n',n',n',n',n',n',n',n',n',n',n',n',n',n'] rfl rfl (take_ofW HT_.out HW_.out (by kernel_rfl)) (fun _ _ _ h=>h) (Or.inl ⟨by rfl,?_⟩) hHeld ?_ ?_
          rotate_left
          ·rintro w' ⟨s0,s1,s2⟩
           go_simp
           with_reducible rfl
          rotate_left
          ·simp only [Act.put,List.setIfInBounds_toArray,List.set_cons_zero,List.set_cons_succ,i64_w,i32_w]
           rfl
          refine pure_ (i:=17) (N:=some 30) (v:=?_) (a':=?_) #[y',y',y',y',y',y',y',y',y',y',y',y',y',y',y',y',y',y',n',n',n',n',n',n',n',n',n',n',n',n',n',n',n',n',n',n',n',n',n',n',n',n',n',n',n',n',n',n',n',n',n',n',n',n'] rfl rfl (any_of HT_.out (by kernel_rfl)) (fun _ _ _ h=>h) (Or.inl ⟨by rfl,?_⟩) ?_ ?_
          rotate_left
          ·intro w'
           go_simp
           with_reducible rfl
          rotate_left
          ·simp only [Act.put,List.setIfInBounds_toArray,List.set_cons_zero,List.set_cons_succ,i64_w,i32_w]
           rfl
          refine pure_ (i:=18) (N:=some 31) (v:=?_) (a':=?_) #[y',y',y',y',y',y',y',y',y',y',y',y',y',y',y',y',y',y',y',n',n',n',n',n',n',n',n',n',n',n',n',n',n',n',n',n',n',n',n',n',n',n',n',n',n',n',n',n',n',n',n',n',n',n'] rfl rfl (any_of HT_.out (by kernel_rfl)) (fun _ _ _ h=>h) (Or.inl ⟨by rfl,?_⟩) ?_ ?_
          rotate_left
          ·intro w'
           go_simp
           with_reducible rfl
          rotate_left
          ·simp only [Act.put,List.setIfInBounds_toArray,List.set_cons_zero,List.set_cons_succ,i64_w,i32_w]
           rfl
          refine pure_ (i:=19) (N:=some 32) (v:=?_) (a':=?_) #[y',y',y',y',y',y',y',y',y',y',y',y',y',y',y',y',y',y',y',y',n',n',n',n',n',n',n',n',n',n',n',n',n',n',n',n',n',n',n',n',n',n',n',n',n',n',n',n',n',n',n',n',n',n'] rfl rfl (any_of HT_.out (by kernel_rfl)) (fun _ _ _ h=>h) (Or.inl ⟨by rfl,?_⟩) ?_ ?_
          rotate_left
          ·intro w'
           go_simp
           with_reducible rfl
          rotate_left
          ·simp only [Act.put,List.setIfInBounds_toArray,List.set_cons_zero,List.set_cons_succ,i64_w,i32_w]
           rfl
          refine pure_ (i:=20) (N:=some 33) (v:=undef) (a':=?_) #[y',y',y',y',y',y',y',y',y',y',y',y',y',y',y',y',y',y',y',y',y',n',n',n',n',n',n',n',n',n',n',n',n',n',n',n',n',n',n',n',n',n',n',n',n',n',n',n',n',n',n',n',n',n'] rfl rfl (any_of HT_.out (by kernel_rfl)) (fun _ _ _ h=>h) (Or.inr ⟨by rfl,rfl⟩) ?_ ?_
          rotate_left
          ·simp only [Act.put,List.setIfInBounds_toArray,List.set_cons_zero,List.set_cons_succ,i64_w,i32_w]
           rfl
          refine pure_ (i:=21) (N:=some 34) (v:=undef) (a':=?_) #[y',y',y',y',y',y',y',y',y',y',y',y',y',y',y',y',y',y',y',y',y',y',n',n',n',n',n',n',n',n',n',n',n',n',n',n',n',n',n',n',n',n',n',n',n',n',n',n',n',n',n',n',n',n'] rfl rfl (any_of HT_.out (by kernel_rfl)) (fun _ _ _ h=>h) (Or.inr ⟨by rfl,rfl⟩) ?_ ?_
          rotate_left
          ·simp only [Act.put,List.setIfInBounds_toArray,List.set_cons_zero,List.set_cons_succ,i64_w,i32_w]
           rfl
          refine pure_ (i:=22) (N:=some 35) (v:=undef) (a':=?_) #[y',y',y',y',y',y',y',y',y',y',y',y',y',y',y',y',y',y',y',y',y',y',y',n',n',n',n',n',n',n',n',n',n',n',n',n',n',n',n',n',n',n',n',n',n',n',n',n',n',n',n',n',n',n'] rfl rfl (any_of HT_.out (by kernel_rfl)) (fun _ _ _ h=>h) (Or.inr ⟨by rfl,rfl⟩) ?_ ?_
          rotate_left
          ·simp only [Act.put,List.setIfInBounds_toArray,List.set_cons_zero,List.set_cons_succ,i64_w,i32_w]
           rfl
          refine pure_ (i:=23) (N:=some 36) (v:=undef) (a':=?_) #[y',y',y',y',y',y',y',y',y',y',y',y',y',y',y',y',y',y',y',y',y',y',y',y',n',n',n',n',n',n',n',n',n',n',n',n',n',n',n',n',n',n',n',n',n',n',n',n',n',n',n',n',n',n'] rfl rfl (any_of HT_.out (by kernel_rfl)) (fun _ _ _ h=>h) (Or.inr ⟨by rfl,rfl⟩) ?_ ?_
          rotate_left
          ·simp only [Act.put,List.setIfInBounds_toArray,List.set_cons_zero,List.set_cons_succ,i64_w,i32_w]
           rfl
          refine pure_ (i:=24) (N:=some 37) (v:=undef) (a':=?_) #[y',y',y',y',y',y',y',y',y',y',y',y',y',y',y',y',y',y',y',y',y',y',y',y',y',n',n',n',n',n',n',n',n',n',n',n',n',n',n',n',n',n',n',n',n',n',n',n',n',n',n',n',n',n'] rfl rfl (any_of HT_.out (by kernel_rfl)) (fun _ _ _ h=>h) (Or.inr ⟨by rfl,rfl⟩) ?_ ?_
          rotate_left
          ·simp only [Act.put,List.setIfInBounds_toArray,List.set_cons_zero,List.set_cons_succ,i64_w,i32_w]
           rfl
          refine pure_ (i:=25) (N:=some 38) (v:=?_) (a':=?_) #[y',y',y',y',y',y',y',y',y',y',y',y',y',y',y',y',y',y',y',y',y',y',y',y',y',y',n',n',n',n',n',n',n',n',n',n',n',n',n',n',n',n',n',n',n',n',n',n',n',n',n',n',n',n'] rfl rfl (any_of HT_.out (by kernel_rfl)) (fun _ _ _ h=>h) (Or.inl ⟨by rfl,?_⟩) ?_ ?_
          rotate_left
          ·intro w'
           go_simp
           with_reducible rfl
          rotate_left
          ·simp only [Act.put,List.setIfInBounds_toArray,List.set_cons_zero,List.set_cons_succ,i64_w,i32_w]
           rfl
          refine pure_ (i:=26) (N:=some 39) (v:=?_) (a':=?_) #[y',y',y',y',y',y',y',y',y',y',y',y',y',y',y',y',y',y',y',y',y',y',y',y',y',y',y',n',n',n',n',n',n',n',n',n',n',n',n',n',n',n',n',n',n',n',n',n',n',n',n',n',n',n'] rfl rfl (any_of HT_.out (by kernel_rfl)) (fun _ _ _ h=>h) (Or.inl ⟨by rfl,?_⟩) ?_ ?_
          rotate_left
          ·intro w'
           go_simp
           with_reducible rfl
          rotate_left
          ·simp only [Act.put,List.setIfInBounds_toArray,List.set_cons_zero,List.set_cons_succ,i64_w,i32_w]
           rfl
          refine pure_ (i:=27) (N:=some 40) (v:=undef) (a':=?_) #[y',y',y',y',y',y',y',y',y',y',y',y',y',y',y',y',y',y',y',y',y',y',y',y',y',y',y',y',n',n',n',n',n',n',n',n',n',n',n',n',n',n',n',n',n',n',n',n',n',n',n',n',n',n'] rfl rfl (any_of HT_.out (by kernel_rfl)) (fun _ _ _ h=>h) (Or.inr ⟨by rfl,rfl⟩) ?_ ?_
          rotate_left
          ·simp only [Act.put,List.setIfInBounds_toArray,List.set_cons_zero,List.set_cons_succ,i64_w,i32_w]
           rfl
          refine pure_ (i:=28) (N:=some 41) (v:=undef) (a':=?_) #[y',y',y',y',y',y',y',y',y',y',y',y',y',y',y',y',y',y',y',y',y',y',y',y',y',y',y',y',y',n',n',n',n',n',n',n',n',n',n',n',n',n',n',n',n',n',n',n',n',n',n',n',n',n'] rfl rfl (any_of HT_.out (by kernel_rfl)) (fun _ _ _ h=>h) (Or.inr ⟨by rfl,rfl⟩) ?_ ?_
          rotate_left
          ·simp only [Act.put,List.setIfInBounds_toArray,List.set_cons_zero,List.set_cons_succ,i64_w,i32_w]
           rfl
          refine pure_ (i:=29) (N:=some 42) (v:=undef) (a':=?_) #[y',y',y',y',y',y',y',y',y',y',y',y',y',y',y',y',y',y',y',y',y',y',y',y',y',y',y',y',y',y',n',n',n',n',n',n',n',n',n',n',n',n',n',n',n',n',n',n',n',n',n',n',n',n'] rfl rfl (any_of HT_.out (by kernel_rfl)) (fun _ _ _ h=>h) (Or.inr ⟨by rfl,rfl⟩) ?_ ?_
          rotate_left
          ·simp only [Act.put,List.setIfInBounds_toArray,List.set_cons_zero,List.set_cons_succ,i64_w,i32_w]
           rfl
          refine pure_ (i:=30) (N:=some 43) (v:=undef) (a':=?_) #[y',y',y',y',y',y',y',y',y',y',y',y',y',y',y',y',y',y',y',y',y',y',y',y',y',y',y',y',y',y',y',n',n',n',n',n',n',n',n',n',n',n',n',n',n',n',n',n',n',n',n',n',n',n'] rfl rfl (any_of HT_.out (by kernel_rfl)) (fun _ _ _ h=>h) (Or.inr ⟨by rfl,rfl⟩) ?_ ?_
          rotate_left
          ·simp only [Act.put,List.setIfInBounds_toArray,List.set_cons_zero,List.set_cons_succ,i64_w,i32_w]
           rfl
          refine pure_ (i:=31) (N:=some 44) (v:=undef) (a':=?_) #[y',y',y',y',y',y',y',y',y',y',y',y',y',y',y',y',y',y',y',y',y',y',y',y',y',y',y',y',y',y',y',y',n',n',n',n',n',n',n',n',n',n',n',n',n',n',n',n',n',n',n',n',n',n'] rfl rfl (any_of HT_.out (by kernel_rfl)) (fun _ _ _ h=>h) (Or.inr ⟨by rfl,rfl⟩) ?_ ?_
          rotate_left
          ·simp only [Act.put,List.setIfInBounds_toArray,List.set_cons_zero,List.set_cons_succ,i64_w,i32_w]
           rfl
          refine pure_ (i:=32) (N:=some 45) (v:=undef) (a':=?_) #[y',y',y',y',y',y',y',y',y',y',y',y',y',y',y',y',y',y',y',y',y',y',y',y',y',y',y',y',y',y',y',y',y',n',n',n',n',n',n',n',n',n',n',n',n',n',n',n',n',n',n',n',n',n'] rfl rfl (any_of HT_.out (by kernel_rfl)) (fun _ _ _ h=>h) (Or.inr ⟨by rfl,rfl⟩) ?_ ?_
          rotate_left
          ·simp only [Act.put,List.setIfInBounds_toArray,List.set_cons_zero,List.set_cons_succ,i64_w,i32_w]
           rfl
          refine pure_ (i:=33) (N:=some 46) (v:=undef) (a':=?_) #[y',y',y',y',y',y',y',y',y',y',y',y',y',y',y',y',y',y',y',y',y',y',y',y',y',y',y',y',y',y',y',y',y',y',n',n',n',n',n',n',n',n',n',n',n',n',n',n',n',n',n',n',n',n'] rfl rfl (any_of HT_.out (by kernel_rfl)) (fun _ _ _ h=>h) (Or.inr ⟨by rfl,rfl⟩) ?_ ?_
          rotate_left
          ·simp only [Act.put,List.setIfInBounds_toArray,List.set_cons_zero,List.set_cons_succ,i64_w,i32_w]
           rfl
          refine pure_ (i:=34) (N:=some 47) (v:=undef) (a':=?_) #[y',y',y',y',y',y',y',y',y',y',y',y',y',y',y',y',y',y',y',y',y',y',y',y',y',y',y',y',y',y',y',y',y',y',y',n',n',n',n',n',n',n',n',n',n',n',n',n',n',n',n',n',n',n'] rfl rfl (any_of HT_.out (by kernel_rfl)) (fun _ _ _ h=>h) (Or.inr ⟨by rfl,rfl⟩) ?_ ?_
          rotate_left
          ·simp only [Act.put,List.setIfInBounds_toArray,List.set_cons_zero,List.set_cons_succ,i64_w,i32_w]
           rfl
          refine pure_ (i:=35) (N:=some 48) (v:=undef) (a':=?_) #[y',y',y',y',y',y',y',y',y',y',y',y',y',y',y',y',y',y',y',y',y',y',y',y',y',y',y',y',y',y',y',y',y',y',y',y',n',n',n',n',n',n',n',n',n',n',n',n',n',n',n',n',n',n'] rfl rfl (any_of HT_.out (by kernel_rfl)) (fun _ _ _ h=>h) (Or.inr ⟨by rfl,rfl⟩) ?_ ?_
          rotate_left
          ·simp only [Act.put,List.setIfInBounds_toArray,List.set_cons_zero,List.set_cons_succ,i64_w,i32_w]
           rfl
          refine pure_ (i:=36) (N:=some 49) (v:=?_) (a':=?_) #[y',y',y',y',y',y',y',y',y',y',y',y',y',y',y',y',y',y',y',y',y',y',y',y',y',y',y',y',y',y',y',y',y',y',y',y',y',n',n',n',n',n',n',n',n',n',n',n',n',n',n',n',n',n'] rfl rfl (any_of HT_.out (by kernel_rfl)) (fun _ _ _ h=>h) (Or.inl ⟨by rfl,?_⟩) ?_ ?_
          rotate_left
          ·intro w'
           go_simp
           with_reducible rfl
          rotate_left
          ·simp only [Act.put,List.setIfInBounds_toArray,List.set_cons_zero,List.set_cons_succ,i64_w,i32_w]
           rfl
          refine pure_ (i:=37) (N:=some 50) (v:=?_) (a':=?_) #[y',y',y',y',y',y',y',y',y',y',y',y',y',y',y',y',y',y',y',y',y',y',y',y',y',y',y',y',y',y',y',y',y',y',y',y',y',y',n',n',n',n',n',n',n',n',n',n',n',n',n',n',n',n'] rfl rfl (any_of HT_.out (by kernel_rfl)) (fun _ _ _ h=>h) (Or.inl ⟨by rfl,?_⟩) ?_ ?_
          rotate_left
          ·intro w'
           go_simp
           with_reducible rfl
          rotate_left
          ·simp only [Act.put,List.setIfInBounds_toArray,List.set_cons_zero,List.set_cons_succ,i64_w,i32_w]
           rfl
          refine pure_ (i:=38) (N:=some 51) (v:=undef) (a':=?_) #[y',y',y',y',y',y',y',y',y',y',y',y',y',y',y',y',y',y',y',y',y',y',y',y',y',y',y',y',y',y',y',y',y',y',y',y',y',y',y',n',n',n',n',n',n',n',n',n',n',n',n',n',n',n'] rfl rfl (any_of HT_.out (by kernel_rfl)) (fun _ _ _ h=>h) (Or.inr ⟨by rfl,rfl⟩) ?_ ?_
          rotate_left
          ·simp only [Act.put,List.setIfInBounds_toArray,List.set_cons_zero,List.set_cons_succ,i64_w,i32_w]
           rfl
          refine pure_ (i:=39) (N:=some 52) (v:=undef) (a':=?_) #[y',y',y',y',y',y',y',y',y',y',y',y',y',y',y',y',y',y',y',y',y',y',y',y',y',y',y',y',y',y',y',y',y',y',y',y',y',y',y',y',n',n',n',n',n',n',n',n',n',n',n',n',n',n'] rfl rfl (any_of HT_.out (by kernel_rfl)) (fun _ _ _ h=>h) (Or.inr ⟨by rfl,rfl⟩) ?_ ?_
          rotate_left
          ·simp only [Act.put,List.setIfInBounds_toArray,List.set_cons_zero,List.set_cons_succ,i64_w,i32_w]
           rfl
          refine pure_ (i:=40) (N:=some 53) (v:=undef) (a':=?_) #[y',y',y',y',y',y',y',y',y',y',y',y',y',y',y',y',y',y',y',y',y',y',y',y',y',y',y',y',y',y',y',y',y',y',y',y',y',y',y',y',y',n',n',n',n',n',n',n',n',n',n',n',n',n'] rfl rfl (any_of HT_.out (by kernel_rfl)) (fun _ _ _ h=>h) (Or.inr ⟨by rfl,rfl⟩) ?_ ?_
          rotate_left
          ·simp only [Act.put,List.setIfInBounds_toArray,List.set_cons_zero,List.set_cons_succ,i64_w,i32_w]
           rfl
          refine pure_ (i:=41) (N:=some 54) (v:=undef) (a':=?_) #[y',y',y',y',y',y',y',y',y',y',y',y',y',y',y',y',y',y',y',y',y',y',y',y',y',y',y',y',y',y',y',y',y',y',y',y',y',y',y',y',y',y',n',n',n',n',n',n',n',n',n',n',n',n'] rfl rfl (any_of HT_.out (by kernel_rfl)) (fun _ _ _ h=>h) (Or.inr ⟨by rfl,rfl⟩) ?_ ?_
          rotate_left
          ·simp only [Act.put,List.setIfInBounds_toArray,List.set_cons_zero,List.set_cons_succ,i64_w,i32_w]
           rfl
          refine pure_ (i:=42) (N:=some 55) (v:=undef) (a':=?_) #[y',y',y',y',y',y',y',y',y',y',y',y',y',y',y',y',y',y',y',y',y',y',y',y',y',y',y',y',y',y',y',y',y',y',y',y',y',y',y',y',y',y',y',n',n',n',n',n',n',n',n',n',n',n'] rfl rfl (any_of HT_.out (by kernel_rfl)) (fun _ _ _ h=>h) (Or.inr ⟨by rfl,rfl⟩) ?_ ?_
          rotate_left
          ·simp only [Act.put,List.setIfInBounds_toArray,List.set_cons_zero,List.set_cons_succ,i64_w,i32_w]
           rfl
          refine pure_ (i:=43) (N:=some 56) (v:=undef) (a':=?_) #[y',y',y',y',y',y',y',y',y',y',y',y',y',y',y',y',y',y',y',y',y',y',y',y',y',y',y',y',y',y',y',y',y',y',y',y',y',y',y',y',y',y',y',y',n',n',n',n',n',n',n',n',n',n'] rfl rfl (any_of HT_.out (by kernel_rfl)) (fun _ _ _ h=>h) (Or.inr ⟨by rfl,rfl⟩) ?_ ?_
          rotate_left
          ·simp only [Act.put,List.setIfInBounds_toArray,List.set_cons_zero,List.set_cons_succ,i64_w,i32_w]
           rfl
          refine pure_ (i:=44) (N:=some 57) (v:=undef) (a':=?_) #[y',y',y',y',y',y',y',y',y',y',y',y',y',y',y',y',y',y',y',y',y',y',y',y',y',y',y',y',y',y',y',y',y',y',y',y',y',y',y',y',y',y',y',y',y',n',n',n',n',n',n',n',n',n'] rfl rfl (any_of HT_.out (by kernel_rfl)) (fun _ _ _ h=>h) (Or.inr ⟨by rfl,rfl⟩) ?_ ?_
          rotate_left
          ·simp only [Act.put,List.setIfInBounds_toArray,List.set_cons_zero,List.set_cons_succ,i64_w,i32_w]
           rfl
          refine pure_ (i:=45) (N:=some 58) (v:=undef) (a':=?_) #[y',y',y',y',y',y',y',y',y',y',y',y',y',y',y',y',y',y',y',y',y',y',y',y',y',y',y',y',y',y',y',y',y',y',y',y',y',y',y',y',y',y',y',y',y',y',n',n',n',n',n',n',n',n'] rfl rfl (any_of HT_.out (by kernel_rfl)) (fun _ _ _ h=>h) (Or.inr ⟨by rfl,rfl⟩) ?_ ?_
          rotate_left
          ·simp only [Act.put,List.setIfInBounds_toArray,List.set_cons_zero,List.set_cons_succ,i64_w,i32_w]
           rfl
          refine pure_ (i:=46) (N:=some 59) (v:=undef) (a':=?_) #[y',y',y',y',y',y',y',y',y',y',y',y',y',y',y',y',y',y',y',y',y',y',y',y',y',y',y',y',y',y',y',y',y',y',y',y',y',y',y',y',y',y',y',y',y',y',y',n',n',n',n',n',n',n'] rfl rfl (any_of HT_.out (by kernel_rfl)) (fun _ _ _ h=>h) (Or.inr ⟨by rfl,rfl⟩) ?_ ?_
          rotate_left
          ·simp only [Act.put,List.setIfInBounds_toArray,List.set_cons_zero,List.set_cons_succ,i64_w,i32_w]
           rfl
          refine pure_ (i:=47) (N:=some 60) (v:=undef) (a':=?_) #[y',y',y',y',y',y',y',y',y',y',y',y',y',y',y',y',y',y',y',y',y',y',y',y',y',y',y',y',y',y',y',y',y',y',y',y',y',y',y',y',y',y',y',y',y',y',y',y',n',n',n',n',n',n'] rfl rfl (any_of HT_.out (by kernel_rfl)) (fun _ _ _ h=>h) (Or.inr ⟨by rfl,rfl⟩) ?_ ?_
          rotate_left
          ·simp only [Act.put,List.setIfInBounds_toArray,List.set_cons_zero,List.set_cons_succ,i64_w,i32_w]
           rfl
          refine pure_ (i:=48) (N:=some 61) (v:=undef) (a':=?_) #[y',y',y',y',y',y',y',y',y',y',y',y',y',y',y',y',y',y',y',y',y',y',y',y',y',y',y',y',y',y',y',y',y',y',y',y',y',y',y',y',y',y',y',y',y',y',y',y',y',n',n',n',n',n'] rfl rfl (any_of HT_.out (by kernel_rfl)) (fun _ _ _ h=>h) (Or.inr ⟨by rfl,rfl⟩) ?_ ?_
          rotate_left
          ·simp only [Act.put,List.setIfInBounds_toArray,List.set_cons_zero,List.set_cons_succ,i64_w,i32_w]
           rfl
          refine pure_ (i:=49) (N:=some 62) (v:=undef) (a':=?_) #[y',y',y',y',y',y',y',y',y',y',y',y',y',y',y',y',y',y',y',y',y',y',y',y',y',y',y',y',y',y',y',y',y',y',y',y',y',y',y',y',y',y',y',y',y',y',y',y',y',y',n',n',n',n'] rfl rfl (any_of HT_.out (by kernel_rfl)) (fun _ _ _ h=>h) (Or.inr ⟨by rfl,rfl⟩) ?_ ?_
          rotate_left
          ·simp only [Act.put,List.setIfInBounds_toArray,List.set_cons_zero,List.set_cons_succ,i64_w,i32_w]
           rfl
          refine pure_ (i:=50) (N:=some 63) (v:=undef) (a':=?_) #[y',y',y',y',y',y',y',y',y',y',y',y',y',y',y',y',y',y',y',y',y',y',y',y',y',y',y',y',y',y',y',y',y',y',y',y',y',y',y',y',y',y',y',y',y',y',y',y',y',y',y',n',n',n'] rfl rfl (any_of HT_.out (by kernel_rfl)) (fun _ _ _ h=>h) (Or.inr ⟨by rfl,rfl⟩) ?_ ?_
          rotate_left
          ·simp only [Act.put,List.setIfInBounds_toArray,List.set_cons_zero,List.set_cons_succ,i64_w,i32_w]
           rfl
          refine pure_ (i:=51) (N:=some 64) (v:=undef) (a':=?_) #[y',y',y',y',y',y',y',y',y',y',y',y',y',y',y',y',y',y',y',y',y',y',y',y',y',y',y',y',y',y',y',y',y',y',y',y',y',y',y',y',y',y',y',y',y',y',y',y',y',y',y',y',n',n'] rfl rfl (any_of HT_.out (by kernel_rfl)) (fun _ _ _ h=>h) (Or.inr ⟨by rfl,rfl⟩) ?_ ?_
          rotate_left
          ·simp only [Act.put,List.setIfInBounds_toArray,List.set_cons_zero,List.set_cons_succ,i64_w,i32_w]
           rfl
          refine pure_ (i:=52) (N:=some 65) (v:=undef) (a':=?_) #[y',y',y',y',y',y',y',y',y',y',y',y',y',y',y',y',y',y',y',y',y',y',y',y',y',y',y',y',y',y',y',y',y',y',y',y',y',y',y',y',y',y',y',y',y',y',y',y',y',y',y',y',y',n'] rfl rfl (any_of HT_.out (by kernel_rfl)) (fun _ _ _ h=>h) (Or.inr ⟨by rfl,rfl⟩) ?_ ?_
          rotate_left
          ·simp only [Act.put,List.setIfInBounds_toArray,List.set_cons_zero,List.set_cons_succ,i64_w,i32_w]
           rfl
          refine pure_ (i:=53) (N:=some 66) (v:=?_) (a':=?_) #[y',y',y',y',y',y',y',y',y',y',y',y',y',y',y',y',y',y',y',y',y',y',y',y',y',y',y',y',y',y',y',y',y',y',y',y',y',y',y',y',y',y',y',y',y',y',y',y',y',y',y',y',y',y'] rfl rfl (any_of HT_.out (by kernel_rfl)) (fun _ _ _ h=>h) (Or.inl ⟨by rfl,?_⟩) ?_ ?_
          rotate_left
          ·intro w'
           go_simp
           with_reducible rfl
          rotate_left
          ·simp only [Act.put,List.setIfInBounds_toArray,List.set_cons_zero,List.set_cons_succ,i64_w,i32_w]
           rfl
          refine done_ (done_of HT_.out (by kernel_rfl)) ?_
          try go_wp2
          go_ret
          exact ⟨by first|rfl|(simp [errW_none,errW_some] <;> rfl)|(simp [*,errW_none,errW_some] <;> rfl),by repeat (first|(with_reducible first|exact HB.out|apply zA|apply zB|apply zC|refine zF ?_ GE248.out)|exact HB.out)⟩
         ·rw [if_neg c13] at H;have c13b0 : decide ((rd l2 x10_1) < (-1)) = false:=decide_eq_false c13;clear c13;by_cases c15 : (rd l2 x10_1) > 3
          ·rw [if_pos c15] at H;have c15b0 : decide (3 < (rd l2 x10_1)) = true:=decide_eq_true c15;clear c15;obtain rfl:=Option.some.inj H;try go_wp2
           have n0_:=zm (zI BK248.out);have n1_:=zm (zC HB.out);clear BK248;clear HB;have BK248:=n0_;have HB:=n1_;clear n0_ n1_;have p249 : 0 ≤ (x10_1 : Int):=of_decide_eq_true (by first|(with_reducible assumption)|assumption)
           have q249 : x10_1 < (l1.length : Int):=of_decide_eq_true (by first|(with_reducible assumption)|assumption)
           obtain ⟨ad249,e249,hx249_0⟩:=Kd.at_int HR1.out x10_1 p249 q249;have hw249_0:=hx249_0;cases e249;replace hx249_0:=(HB.out.cell (World.block_lt_of_cell? w _ hx249_0)).trans hx249_0;replace p249:=eq_true p249;replace q249:=eq_true q249;have p250 : 0 ≤ (x10_1 : Int):=of_decide_eq_true (by first|(with_reducible assumption)|assumption)
           have q250 : x10_1 < (l1.length : Int):=of_decide_eq_true (by first|(with_reducible assumption)|assumption)
           obtain ⟨ad250,e250,hx250_0⟩:=Kd.at_int HR1.out x10_1 p250 q250;have hw250_0:=hx250_0;obtain rfl : ad249 = ad250:=(by injection e250)
           replace hx250_0:=(HB.out.cell (World.block_lt_of_cell? w _ hx250_0)).trans hx250_0;replace p250:=eq_true p250;replace q250:=eq_true q250;have p251 : 0 ≤ (x10_1 : Int):=of_decide_eq_true (by first|(with_reducible assumption)|assumption)
           have q251 : x10_1 < (l2.length : Int):=of_decide_eq_true (by first|(with_reducible assumption)|assumption)
           obtain ⟨ad251,e251,hx251_0⟩:=Kd.at_int HR2.out x10_1 p251 q251;have hw251_0:=hx251_0;cases e251;replace hx251_0:=(HB.out.cell (World.block_lt_of_cell? w _ hx251_0)).trans hx251_0;replace p251:=eq_true p251;replace q251:=eq_true q251;have p252 : 0 ≤ (x10_1 : Int):=of_decide_eq_true (by first|(with_reducible assumption)|assumption)
           have q252 : x10_1 < (l2.length : Int):=of_decide_eq_true (by first|(with_reducible assumption)|assumption)
           obtain ⟨ad252,e252,hx252_0⟩:=Kd.at_int HR2.out x10_1 p252 q252;have hw252_0:=hx252_0;obtain rfl : ad251 = ad252:=(by injection e252)
           replace hx252_0:=(HB.out.cell (World.block_lt_of_cell? w _ hx252_0)).trans hx252_0;replace p252:=eq_true p252;replace q252:=eq_true q252;refine start_ (n:=54) (S:=fun w'=>w'.cell? (ad249.add (x10_1).toNat) = some (.int .i64 (rd l1 x10_1))∧w'.cell? (ad249.add (x10_1).toNat) = some (.int .i64 (rd l1 x10_1))∧w'.cell? (ad251.add (x10_1).toNat) = some (.int .i64 (rd l2 x10_1))∧w'.cell? (ad251.add (x10_1).toNat) = some (.int .i64 (rd l2 x10_1))) (ds:=[]) #[n',n',n',n',n',n',n',n',n',n',n',n',n',n',n',n',n',n',n',n',n',n',n',n',n',n',n',n',n',n',n',n',n',n',n',n',n',n',n',n',n',n',n',n',n',n',n',n',n',n',n',n',n',n'] (by kernel_rfl) rfl rfl ⟨((HB.out.cell (World.block_lt_of_cell? w _ hw249_0)).trans hw249_0),((HB.out.cell (World.block_lt_of_cell? w _ hw250_0)).trans hw250_0),((HB.out.cell (World.block_lt_of_cell? w _ hw251_0)).trans hw251_0),((HB.out.cell (World.block_lt_of_cell? w _ hw252_0)).trans hw252_0)⟩ (fun hHeld=>?_);refine with_tabW laws_wAgrees.tab4 laws_wAgrees.bits4 (fun HT_ HW_=>?_)
           generalize wr.drew = w16 at BK248 HB hx249_0 hx250_0 hx251_0 hx252_0 hHeld ⊢
           refine pure_ (i:=0) (N:=some 13) (v:=?_) (a':=?_) #[y',n',n',n',n',n',n',n',n',n',n',n',n',n',n',n',n',n',n',n',n',n',n',n',n',n',n',n',n',n',n',n',n',n',n',n',n',n',n',n',n',n',n',n',n',n',n',n',n',n',n',n',n',n'] rfl rfl (any_of HT_.out (by kernel_rfl)) (fun _ _ _ h=>h) (Or.inl ⟨by rfl,?_⟩) ?_ ?_
           rotate_left
           ·intro w'
            go_simp
            with_reducible rfl
           rotate_left
           ·simp only [Act.put,List.setIfInBounds_toArray,List.set_cons_zero,List.set_cons_succ,i64_w,i32_w]
            rfl
           refine pure_ (i:=1) (N:=some 14) (v:=?_) (a':=?_) #[y',y',n',n',n',n',n',n',n',n',n',n',n',n',n',n',n',n',n',n',n',n',n',n',n',n',n',n',n',n',n',n',n',n',n',n',n',n',n',n',n',n',n',n',n',n',n',n',n',n',n',n',n',n'] rfl rfl (any_of HT_.out (by kernel_rfl)) (fun _ _ _ h=>h) (Or.inl ⟨by rfl,?_⟩) ?_ ?_
           rotate_left
           ·intro w'
            go_simp
            with_reducible rfl
           rotate_left
           ·simp only [Act.put,List.setIfInBounds_toArray,List.set_cons_zero,List.set_cons_succ,i64_w,i32_w]
            rfl
           refine pure_ (i:=2) (N:=some 15) (v:=?_) (a':=?_) #[y',y',y',n',n',n',n',n',n',n',n',n',n',n',n',n',n',n',n',n',n',n',n',n',n',n',n',n',n',n',n',n',n',n',n',n',n',n',n',n',n',n',n',n',n',n',n',n',n',n',n',n',n',n'] rfl rfl (any_of HT_.out (by kernel_rfl)) (fun _ _ _ h=>h) (Or.inl ⟨by rfl,?_⟩) ?_ ?_
           rotate_left
           ·intro w'
            go_simp
            with_reducible rfl
           rotate_left
           ·simp only [Act.put,List.setIfInBounds_toArray,List.set_cons_zero,List.set_cons_succ,i64_w,i32_w]
            rfl
           refine take_ (i:=3) (N:=some 16) (v:=?_) (a':=?_) #[y',y',y',y',n',n',n',n',n',n',n',n',n',n',n',n',n',n',n',n',n',n',n',n',n',n',n',n',n',n',n',n',n',n',n',n',n',n',n',n',n',n',n',n',n',n',n',n',n',n',n',n',n',n'] rfl rfl (take_ofW HT_.out HW_.out (by kernel_rfl)) (fun _ _ _ h=>h) (Or.inl ⟨by rfl,?_⟩) hHeld ?_ ?_
           rotate_left
           ·rintro w' ⟨s0,s1,s2,s3⟩
            go_simp
            with_reducible rfl
           rotate_left
           ·simp only [Act.put,List.setIfInBounds_toArray,List.set_cons_zero,List.set_cons_succ,i64_w,i32_w]
            rfl
           refine pure_ (i:=4) (N:=some 17) (v:=?_) (a':=?_) #[y',y',y',y',y',n',n',n',n',n',n',n',n',n',n',n',n',n',n',n',n',n',n',n',n',n',n',n',n',n',n',n',n',n',n',n',n',n',n',n',n',n',n',n',n',n',n',n',n',n',n',n',n',n'] rfl rfl (any_of HT_.out (by kernel_rfl)) (fun _ _ _ h=>h) (Or.inl ⟨by rfl,?_⟩) ?_ ?_
           rotate_left
           ·intro w'
            go_simp
            with_reducible rfl
           rotate_left
           ·simp only [Act.put,List.setIfInBounds_toArray,List.set_cons_zero,List.set_cons_succ,i64_w,i32_w]
            rfl
           refine pure_ (i:=5) (N:=some 18) (v:=?_) (a':=?_) #[y',y',y',y',y',y',n',n',n',n',n',n',n',n',n',n',n',n',n',n',n',n',n',n',n',n',n',n',n',n',n',n',n',n',n',n',n',n',n',n',n',n',n',n',n',n',n',n',n',n',n',n',n',n'] rfl rfl (any_of HT_.out (by kernel_rfl)) (fun _ _ _ h=>h) (Or.inl ⟨by rfl,?_⟩) ?_ ?_
           rotate_left
           ·intro w'
            go_simp
            with_reducible rfl
           rotate_left
           ·simp only [Act.put,List.setIfInBounds_toArray,List.set_cons_zero,List.set_cons_succ,i64_w,i32_w]
            rfl
           refine pure_ (i:=6) (N:=some 19) (v:=?_) (a':=?_) #[y',y',y',y',y',y',y',n',n',n',n',n',n',n',n',n',n',n',n',n',n',n',n',n',n',n',n',n',n',n',n',n',n',n',n',n',n',n',n',n',n',n',n',n',n',n',n',n',n',n',n',n',n',n'] rfl rfl (any_of HT_.out (by kernel_rfl)) (fun _ _ _ h=>h) (Or.inl ⟨by rfl,?_⟩) ?_ ?_
           rotate_left
           ·intro w'
            go_simp
            with_reducible rfl
           rotate_left
           ·simp only [Act.put,List.setIfInBounds_toArray,List.set_cons_zero,List.set_cons_succ,i64_w,i32_w]
            rfl
           refine pure_ (i:=7) (N:=some 20) (v:=?_) (a':=?_) #[y',y',y',y',y',y',y',y',n',n',n',n',n',n',n',n',n',n',n',n',n',n',n',n',n',n',n',n',n',n',n',n',n',n',n',n',n',n',n',n',n',n',n',n',n',n',n',n',n',n',n',n',n',n'] rfl rfl (any_of HT_.out (by kernel_rfl)) (fun _ _ _ h=>h) (Or.inl ⟨by rfl,?_⟩) ?_ ?_
           rotate_left
           ·intro w'
            go_simp
            with_reducible rfl
           rotate_left
           ·simp only [Act.put,List.setIfInBounds_toArray,List.set_cons_zero,List.set_cons_succ,i64_w,i32_w]
            rfl
           refine pure_ (i:=8) (N:=some 21) (v:=?_) (a':=?_) #[y',y',y',y',y',y',y',y',y',n',n',n',n',n',n',n',n',n',n',n',n',n',n',n',n',n',n',n',n',n',n',n',n',n',n',n',n',n',n',n',n',n',n',n',n',n',n',n',n',n',n',n',n',n'] rfl rfl (any_of HT_.out (by kernel_rfl)) (fun _ _ _ h=>h) (Or.inl ⟨by rfl,?_⟩) ?_ ?_
           rotate_left
           ·intro w'
            go_simp
            with_reducible rfl
           rotate_left
           ·simp only [Act.put,List.setIfInBounds_toArray,List.set_cons_zero,List.set_cons_succ,i64_w,i32_w]
            rfl
           refine take_ (i:=9) (N:=some 22) (v:=?_) (a':=?_) #[y',y',y',y',y',y',y',y',y',y',n',n',n',n',n',n',n',n',n',n',n',n',n',n',n',n',n',n',n',n',n',n',n',n',n',n',n',n',n',n',n',n',n',n',n',n',n',n',n',n',n',n',n',n'] rfl rfl (take_ofW HT_.out HW_.out (by kernel_rfl)) (fun _ _ _ h=>h) (Or.inl ⟨by rfl,?_⟩) hHeld ?_ ?_
           rotate_left
           ·rintro w' ⟨s0,s1,s2,s3⟩
            go_simp
            with_reducible rfl
           rotate_left
           ·simp only [Act.put,List.setIfInBounds_toArray,List.set_cons_zero,List.set_cons_succ,i64_w,i32_w]
            rfl
           refine pure_ (i:=10) (N:=some 23) (v:=?_) (a':=?_) #[y',y',y',y',y',y',y',y',y',y',y',n',n',n',n',n',n',n',n',n',n',n',n',n',n',n',n',n',n',n',n',n',n',n',n',n',n',n',n',n',n',n',n',n',n',n',n',n',n',n',n',n',n',n'] rfl rfl (any_of HT_.out (by kernel_rfl)) (fun _ _ _ h=>h) (Or.inl ⟨by rfl,?_⟩) ?_ ?_
           rotate_left
           ·intro w'
            go_simp
            with_reducible rfl
           rotate_left
           ·simp only [Act.put,List.setIfInBounds_toArray,List.set_cons_zero,List.set_cons_succ,i64_w,i32_w]
            rfl
           refine pure_ (i:=11) (N:=some 24) (v:=?_) (a':=?_) #[y',y',y',y',y',y',y',y',y',y',y',y',n',n',n',n',n',n',n',n',n',n',n',n',n',n',n',n',n',n',n',n',n',n',n',n',n',n',n',n',n',n',n',n',n',n',n',n',n',n',n',n',n',n'] rfl rfl (any_of HT_.out (by kernel_rfl)) (fun _ _ _ h=>h) (Or.inl ⟨by rfl,?_⟩) ?_ ?_
           rotate_left
           ·intro w'
            go_simp
            with_reducible rfl
           rotate_left
           ·simp only [Act.put,List.setIfInBounds_toArray,List.set_cons_zero,List.set_cons_succ,i64_w,i32_w]
            rfl
           refine pure_ (i:=12) (N:=some 25) (v:=?_) (a':=?_) #[y',y',y',y',y',y',y',y',y',y',y',y',y',n',n',n',n',n',n',n',n',n',n',n',n',n',n',n',n',n',n',n',n',n',n',n',n',n',n',n',n',n',n',n',n',n',n',n',n',n',n',n',n',n'] rfl rfl (any_of HT_.out (by kernel_rfl)) (fun _ _ _ h=>h) (Or.inl ⟨by rfl,?_⟩) ?_ ?_
           rotate_left
           ·intro w'
            go_simp
            with_reducible rfl
           rotate_left
           ·simp only [Act.put,List.setIfInBounds_toArray,List.set_cons_zero,List.set_cons_succ,i64_w,i32_w]
            rfl
           refine pure_ (i:=13) (N:=some 26) (v:=?_) (a':=?_) #[y',y',y',y',y',y',y',y',y',y',y',y',y',y',n',n',n',n',n',n',n',n',n',n',n',n',n',n',n',n',n',n',n',n',n',n',n',n',n',n',n',n',n',n',n',n',n',n',n',n',n',n',n',n'] rfl rfl (any_of HT_.out (by kernel_rfl)) (fun _ _ _ h=>h) (Or.inl ⟨by rfl,?_⟩) ?_ ?_
           rotate_left
           ·intro w'
            go_simp
            with_reducible rfl
           rotate_left
           ·simp only [Act.put,List.setIfInBounds_toArray,List.set_cons_zero,List.set_cons_succ,i64_w,i32_w]
            rfl
           refine pure_ (i:=14) (N:=some 27) (v:=?_) (a':=?_) #[y',y',y',y',y',y',y',y',y',y',y',y',y',y',y',n',n',n',n',n',n',n',n',n',n',n',n',n',n',n',n',n',n',n',n',n',n',n',n',n',n',n',n',n',n',n',n',n',n',n',n',n',n',n'] rfl rfl (any_of HT_.out (by kernel_rfl)) (fun _ _ _ h=>h) (Or.inl ⟨by rfl,?_⟩) ?_ ?_
           rotate_left
           ·intro w'
            go_simp
            with_reducible rfl
           rotate_left
           ·simp only [Act.put,List.setIfInBounds_toArray,List.set_cons_zero,List.set_cons_succ,i64_w,i32_w]
            rfl
           refine pure_ (i:=15) (N:=some 28) (v:=?_) (a':=?_) #[y',y',y',y',y',y',y',y',y',y',y',y',y',y',y',y',n',n',n',n',n',n',n',n',n',n',n',n',n',n',n',n',n',n',n',n',n',n',n',n',n',n',n',n',n',n',n',n',n',n',n',n',n',n'] rfl rfl (any_of HT_.out (by kernel_rfl)) (fun _ _ _ h=>h) (Or.inl ⟨by rfl,?_⟩) ?_ ?_
           rotate_left
           ·intro w'
            go_simp
            with_reducible rfl
           rotate_left
           ·simp only [Act.put,List.setIfInBounds_toArray,List.set_cons_zero,List.set_cons_succ,i64_w,i32_w]
            rfl
           refine take_ (i:=16) (N:=some 29) (v:=?_) (a':=?_) #[y',y',y',y',y',y',y',y',y',y',y',y',y',y',y',y',y',n',n',n',n',n',n',n',n',n',n',n',n',n',n',n',n',n',n',n',n',n',n',n',n',n',n',n',n',n',n',n',n',n',n',n',n',n'] rfl rfl (take_ofW HT_.out HW_.out (by kernel_rfl)) (fun _ _ _ h=>h) (Or.inl ⟨by rfl,?_⟩) hHeld ?_ ?_
           rotate_left
           ·rintro w' ⟨s0,s1,s2,s3⟩
            go_simp
            with_reducible rfl
           rotate_left
           ·simp only [Act.put,List.setIfInBounds_toArray,List.set_cons_zero,List.set_cons_succ,i64_w,i32_w]
            rfl
           refine pure_ (i:=17) (N:=some 30) (v:=?_) (a':=?_) #[y',y',y',y',y',y',y',y',y',y',y',y',y',y',y',y',y',y',n',n',n',n',n',n',n',n',n',n',n',n',n',n',n',n',n',n',n',n',n',n',n',n',n',n',n',n',n',n',n',n',n',n',n',n'] rfl rfl (any_of HT_.out (by kernel_rfl)) (fun _ _ _ h=>h) (Or.inl ⟨by rfl,?_⟩) ?_ ?_
           rotate_left
           ·intro w'
            go_simp
            with_reducible rfl
           rotate_left
           ·simp only [Act.put,List.setIfInBounds_toArray,List.set_cons_zero,List.set_cons_succ,i64_w,i32_w]
            rfl
           refine pure_ (i:=18) (N:=some 31) (v:=?_) (a':=?_) #[y',y',y',y',y',y',y',y',y',y',y',y',y',y',y',y',y',y',y',n',n',n',n',n',n',n',n',n',n',n',n',n',n',n',n',n',n',n',n',n',n',n',n',n',n',n',n',n',n',n',n',n',n',n'] rfl rfl (any_of HT_.out (by kernel_rfl)) (fun _ _ _ h=>h) (Or.inl ⟨by rfl,?_⟩) ?_ ?_
           rotate_left
           ·intro w'
            go_simp
            with_reducible rfl
           rotate_left
           ·simp only [Act.put,List.setIfInBounds_toArray,List.set_cons_zero,List.set_cons_succ,i64_w,i32_w]
            rfl
           refine pure_ (i:=19) (N:=some 32) (v:=?_) (a':=?_) #[y',y',y',y',y',y',y',y',y',y',y',y',y',y',y',y',y',y',y',y',n',n',n',n',n',n',n',n',n',n',n',n',n',n',n',n',n',n',n',n',n',n',n',n',n',n',n',n',n',n',n',n',n',n'] rfl rfl (any_of HT_.out (by kernel_rfl)) (fun _ _ _ h=>h) (Or.inl ⟨by rfl,?_⟩) ?_ ?_
           rotate_left
           ·intro w'
            go_simp
            with_reducible rfl
           rotate_left
           ·simp only [Act.put,List.setIfInBounds_toArray,List.set_cons_zero,List.set_cons_succ,i64_w,i32_w]
            rfl
           refine pure_ (i:=20) (N:=some 33) (v:=?_) (a':=?_) #[y',y',y',y',y',y',y',y',y',y',y',y',y',y',y',y',y',y',y',y',y',n',n',n',n',n',n',n',n',n',n',n',n',n',n',n',n',n',n',n',n',n',n',n',n',n',n',n',n',n',n',n',n',n'] rfl rfl (any_of HT_.out (by kernel_rfl)) (fun _ _ _ h=>h) (Or.inl ⟨by rfl,?_⟩) ?_ ?_
           rotate_left
           ·intro w'
            go_simp
            with_reducible rfl
           rotate_left
           ·simp only [Act.put,List.setIfInBounds_toArray,List.set_cons_zero,List.set_cons_succ,i64_w,i32_w]
            rfl
           refine pure_ (i:=21) (N:=some 34) (v:=?_) (a':=?_) #[y',y',y',y',y',y',y',y',y',y',y',y',y',y',y',y',y',y',y',y',y',y',n',n',n',n',n',n',n',n',n',n',n',n',n',n',n',n',n',n',n',n',n',n',n',n',n',n',n',n',n',n',n',n'] rfl rfl (any_of HT_.out (by kernel_rfl)) (fun _ _ _ h=>h) (Or.inl ⟨by rfl,?_⟩) ?_ ?_
           rotate_left
           ·intro w'
            go_simp
            with_reducible rfl
           rotate_left
           ·simp only [Act.put,List.setIfInBounds_toArray,List.set_cons_zero,List.set_cons_succ,i64_w,i32_w]
            rfl
           refine pure_ (i:=22) (N:=some 35) (v:=?_) (a':=?_) #[y',y',y',y',y',y',y',y',y',y',y',y',y',y',y',y',y',y',y',y',y',y',y',n',n',n',n',n',n',n',n',n',n',n',n',n',n',n',n',n',n',n',n',n',n',n',n',n',n',n',n',n',n',n'] rfl rfl (any_of HT_.out (by kernel_rfl)) (fun _ _ _ h=>h) (Or.inl ⟨by rfl,?_⟩) ?_ ?_
           rotate_left
           ·intro w'
            go_simp
            with_reducible rfl
           rotate_left
           ·simp only [Act.put,List.setIfInBounds_toArray,List.set_cons_zero,List.set_cons_succ,i64_w,i32_w]
            rfl
           refine take_ (i:=23) (N:=some 36) (v:=?_) (a':=?_) #[y',y',y',y',y',y',y',y',y',y',y',y',y',y',y',y',y',y',y',y',y',y',y',y',n',n',n',n',n',n',n',n',n',n',n',n',n',n',n',n',n',n',n',n',n',n',n',n',n',n',n',n',n',n'] rfl rfl (take_ofW HT_.out HW_.out (by kernel_rfl)) (fun _ _ _ h=>h) (Or.inl ⟨by rfl,?_⟩) hHeld ?_ ?_
           rotate_left
           ·rintro w' ⟨s0,s1,s2,s3⟩
            go_simp
            with_reducible rfl
           rotate_left
           ·simp only [Act.put,List.setIfInBounds_toArray,List.set_cons_zero,List.set_cons_succ,i64_w,i32_w]
            rfl
           refine pure_ (i:=24) (N:=some 37) (v:=?_) (a':=?_) #[y',y',y',y',y',y',y',y',y',y',y',y',y',y',y',y',y',y',y',y',y',y',y',y',y',n',n',n',n',n',n',n',n',n',n',n',n',n',n',n',n',n',n',n',n',n',n',n',n',n',n',n',n',n'] rfl rfl (any_of HT_.out (by kernel_rfl)) (fun _ _ _ h=>h) (Or.inl ⟨by rfl,?_⟩) ?_ ?_
           rotate_left
           ·intro w'
            go_simp
            with_reducible rfl
           rotate_left
           ·simp only [Act.put,List.setIfInBounds_toArray,List.set_cons_zero,List.set_cons_succ,i64_w,i32_w]
            rfl
           refine pure_ (i:=25) (N:=some 38) (v:=?_) (a':=?_) #[y',y',y',y',y',y',y',y',y',y',y',y',y',y',y',y',y',y',y',y',y',y',y',y',y',y',n',n',n',n',n',n',n',n',n',n',n',n',n',n',n',n',n',n',n',n',n',n',n',n',n',n',n',n'] rfl rfl (any_of HT_.out (by kernel_rfl)) (fun _ _ _ h=>h) (Or.inl ⟨by rfl,?_⟩) ?_ ?_
           rotate_left
           ·intro w'
            go_simp
            with_reducible rfl
           rotate_left
           ·simp only [Act.put,List.setIfInBounds_toArray,List.set_cons_zero,List.set_cons_succ,i64_w,i32_w]
            rfl
           refine pure_ (i:=26) (N:=some 39) (v:=?_) (a':=?_) #[y',y',y',y',y',y',y',y',y',y',y',y',y',y',y',y',y',y',y',y',y',y',y',y',y',y',y',n',n',n',n',n',n',n',n',n',n',n',n',n',n',n',n',n',n',n',n',n',n',n',n',n',n',n'] rfl rfl (any_of HT_.out (by kernel_rfl)) (fun _ _ _ h=>h) (Or.inl ⟨by rfl,?_⟩) ?_ ?_
           rotate_left
           ·intro w'
            go_simp
            with_reducible rfl
           rotate_left
           ·simp only [Act.put,List.setIfInBounds_toArray,List.set_cons_zero,List.set_cons_succ,i64_w,i32_w]
            rfl
           refine pure_ (i:=27) (N:=some 40) (v:=undef) (a':=?_) #[y',y',y',y',y',y',y',y',y',y',y',y',y',y',y',y',y',y',y',y',y',y',y',y',y',y',y',y',n',n',n',n',n',n',n',n',n',n',n',n',n',n',n',n',n',n',n',n',n',n',n',n',n',n'] rfl rfl (any_of HT_.out (by kernel_rfl)) (fun _ _ _ h=>h) (Or.inr ⟨by rfl,rfl⟩) ?_ ?_
           rotate_left
           ·simp only [Act.put,List.setIfInBounds_toArray,List.set_cons_zero,List.set_cons_succ,i64_w,i32_w]
            rfl
           refine pure_ (i:=28) (N:=some 41) (v:=undef) (a':=?_) #[y',y',y',y',y',y',y',y',y',y',y',y',y',y',y',y',y',y',y',y',y',y',y',y',y',y',y',y',y',n',n',n',n',n',n',n',n',n',n',n',n',n',n',n',n',n',n',n',n',n',n',n',n',n'] rfl rfl (any_of HT_.out (by kernel_rfl)) (fun _ _ _ h=>h) (Or.inr ⟨by rfl,rfl⟩) ?_ ?_
           rotate_left
           ·simp only [Act.put,List.setIfInBounds_toArray,List.set_cons_zero,List.set_cons_succ,i64_w,i32_w]
            rfl
           refine pure_ (i:=29) (N:=some 42) (v:=undef) (a':=?_) #[y',y',y',y',y',y',y',y',y',y',y',y',y',y',y',y',y',y',y',y',y',y',y',y',y',y',y',y',y',y',n',n',n',n',n',n',n',n',n',n',n',n',n',n',n',n',n',n',n',n',n',n',n',n'] rfl rfl (any_of HT_.out (by kernel_rfl)) (fun _ _ _ h=>h) (Or.inr ⟨by rfl,rfl⟩) ?_ ?_
           rotate_left
           ·simp only [Act.put,List.setIfInBounds_toArray,List.set_cons_zero,List.set_cons_succ,i64_w,i32_w]
            rfl
           refine pure_ (i:=30) (N:=some 43) (v:=undef) (a':=?_) #[y',y',y',y',y',y',y',y',y',y',y',y',y',y',y',y',y',y',y',y',y',y',y',y',y',y',y',y',y',y',y',n',n',n',n',n',n',n',n',n',n',n',n',n',n',n',n',n',n',n',n',n',n',n'] rfl rfl (any_of HT_.out (by kernel_rfl)) (fun _ _ _ h=>h) (Or.inr ⟨by rfl,rfl⟩) ?_ ?_
           rotate_left
           ·simp only [Act.put,List.setIfInBounds_toArray,List.set_cons_zero,List.set_cons_succ,i64_w,i32_w]
            rfl
           refine pure_ (i:=31) (N:=some 44) (v:=undef) (a':=?_) #[y',y',y',y',y',y',y',y',y',y',y',y',y',y',y',y',y',y',y',y',y',y',y',y',y',y',y',y',y',y',y',y',n',n',n',n',n',n',n',n',n',n',n',n',n',n',n',n',n',n',n',n',n',n'] rfl rfl (any_of HT_.out (by kernel_rfl)) (fun _ _ _ h=>h) (Or.inr ⟨by rfl,rfl⟩) ?_ ?_
           rotate_left
           ·simp only [Act.put,List.setIfInBounds_toArray,List.set_cons_zero,List.set_cons_succ,i64_w,i32_w]
            rfl
           refine pure_ (i:=32) (N:=some 45) (v:=undef) (a':=?_) #[y',y',y',y',y',y',y',y',y',y',y',y',y',y',y',y',y',y',y',y',y',y',y',y',y',y',y',y',y',y',y',y',y',n',n',n',n',n',n',n',n',n',n',n',n',n',n',n',n',n',n',n',n',n'] rfl rfl (any_of HT_.out (by kernel_rfl)) (fun _ _ _ h=>h) (Or.inr ⟨by rfl,rfl⟩) ?_ ?_
           rotate_left
           ·simp only [Act.put,List.setIfInBounds_toArray,List.set_cons_zero,List.set_cons_succ,i64_w,i32_w]
            rfl
           refine pure_ (i:=33) (N:=some 46) (v:=undef) (a':=?_) #[y',y',y',y',y',y',y',y',y',y',y',y',y',y',y',y',y',y',y',y',y',y',y',y',y',y',y',y',y',y',y',y',y',y',n',n',n',n',n',n',n',n',n',n',n',n',n',n',n',n',n',n',n',n'] rfl rfl (any_of HT_.out (by kernel_rfl)) (fun _ _ _ h=>h) (Or.inr ⟨by rfl,rfl⟩) ?_ ?_
           rotate_left
           ·simp only [Act.put,List.setIfInBounds_toArray,List.set_cons_zero,List.set_cons_succ,i64_w,i32_w]
            rfl
           refine pure_ (i:=34) (N:=some 47) (v:=undef) (a':=?_) #[y',y',y',y',y',y',y',y',y',y',y',y',y',y',y',y',y',y',y',y',y',y',y',y',y',y',y',y',y',y',y',y',y',y',y',n',n',n',n',n',n',n',n',n',n',n',n',n',n',n',n',n',n',n'] rfl rfl (any_of HT_.out (by kernel_rfl)) (fun _ _ _ h=>h) (Or.inr ⟨by rfl,rfl⟩) ?_ ?_
           rotate_left
           ·simp only [Act.put,List.setIfInBounds_toArray,List.set_cons_zero,List.set_cons_succ,i64_w,i32_w]
            rfl
           refine pure_ (i:=35) (N:=some 48) (v:=undef) (a':=?_) #[y',y',y',y',y',y',y',y',y',y',y',y',y',y',y',y',y',y',y',y',y',y',y',y',y',y',y',y',y',y',y',y',y',y',y',y',n',n',n',n',n',n',n',n',n',n',n',n',n',n',n',n',n',n'] rfl rfl (any_of HT_.out (by kernel_rfl)) (fun _ _ _ h=>h) (Or.inr ⟨by rfl,rfl⟩) ?_ ?_
           rotate_left
           ·simp only [Act.put,List.setIfInBounds_toArray,List.set_cons_zero,List.set_cons_succ,i64_w,i32_w]
            rfl
           refine pure_ (i:=36) (N:=some 49) (v:=?_) (a':=?_) #[y',y',y',y',y',y',y',y',y',y',y',y',y',y',y',y',y',y',y',y',y',y',y',y',y',y',y',y',y',y',y',y',y',y',y',y',y',n',n',n',n',n',n',n',n',n',n',n',n',n',n',n',n',n'] rfl rfl (any_of HT_.out (by kernel_rfl)) (fun _ _ _ h=>h) (Or.inl ⟨by rfl,?_⟩) ?_ ?_
           rotate_left
           ·intro w'
            go_simp
            with_reducible rfl
           rotate_left
           ·simp only [Act.put,List.setIfInBounds_toArray,List.set_cons_zero,List.set_cons_succ,i64_w,i32_w]
            rfl
           refine pure_ (i:=37) (N:=some 50) (v:=?_) (a':=?_) #[y',y',y',y',y',y',y',y',y',y',y',y',y',y',y',y',y',y',y',y',y',y',y',y',y',y',y',y',y',y',y',y',y',y',y',y',y',y',n',n',n',n',n',n',n',n',n',n',n',n',n',n',n',n'] rfl rfl (any_of HT_.out (by kernel_rfl)) (fun _ _ _ h=>h) (Or.inl ⟨by rfl,?_⟩) ?_ ?_
           rotate_left
           ·intro w'
            go_simp
            with_reducible rfl
           rotate_left
           ·simp only [Act.put,List.setIfInBounds_toArray,List.set_cons_zero,List.set_cons_succ,i64_w,i32_w]
            rfl
           refine pure_ (i:=38) (N:=some 51) (v:=undef) (a':=?_) #[y',y',y',y',y',y',y',y',y',y',y',y',y',y',y',y',y',y',y',y',y',y',y',y',y',y',y',y',y',y',y',y',y',y',y',y',y',y',y',n',n',n',n',n',n',n',n',n',n',n',n',n',n',n'] rfl rfl (any_of HT_.out (by kernel_rfl)) (fun _ _ _ h=>h) (Or.inr ⟨by rfl,rfl⟩) ?_ ?_
           rotate_left
           ·simp only [Act.put,List.setIfInBounds_toArray,List.set_cons_zero,List.set_cons_succ,i64_w,i32_w]
            rfl
           refine pure_ (i:=39) (N:=some 52) (v:=undef) (a':=?_) #[y',y',y',y',y',y',y',y',y',y',y',y',y',y',y',y',y',y',y',y',y',y',y',y',y',y',y',y',y',y',y',y',y',y',y',y',y',y',y',y',n',n',n',n',n',n',n',n',n',n',n',n',n',n'] rfl rfl (any_of HT_.out (by kernel_rfl)) (fun _ _ _ h=>h) (Or.inr ⟨by rfl,rfl⟩) ?_ ?_
           rotate_left
           ·simp only [Act.put,List.setIfInBounds_toArray,List.set_cons_zero,List.set_cons_succ,i64_w,i32_w]
            rfl
           refine pure_ (i:=40) (N:=some 53) (v:=undef) (a':=?_) #[y',y',y',y',y',y',y',y',y',y',y',y',y',y',y',y',y',y',y',y',y',y',y',y',y',y',y',y',y',y',y',y',y',y',y',y',y',y',y',y',y',n',n',n',n',n',n',n',n',n',n',n',n',n'] rfl rfl (any_of HT_.out (by kernel_rfl)) (fun _ _ _ h=>h) (Or.inr ⟨by rfl,rfl⟩) ?_ ?_
           rotate_left
           ·simp only [Act.put,List.setIfInBounds_toArray,List.set_cons_zero,List.set_cons_succ,i64_w,i32_w]
            rfl
           refine pure_ (i:=41) (N:=some 54) (v:=undef) (a':=?_) #[y',y',y',y',y',y',y',y',y',y',y',y',y',y',y',y',y',y',y',y',y',y',y',y',y',y',y',y',y',y',y',y',y',y',y',y',y',y',y',y',y',y',n',n',n',n',n',n',n',n',n',n',n',n'] rfl rfl (any_of HT_.out (by kernel_rfl)) (fun _ _ _ h=>h) (Or.inr ⟨by rfl,rfl⟩) ?_ ?_
           rotate_left
           ·simp only [Act.put,List.setIfInBounds_toArray,List.set_cons_zero,List.set_cons_succ,i64_w,i32_w]
            rfl
           refine pure_ (i:=42) (N:=some 55) (v:=undef) (a':=?_) #[y',y',y',y',y',y',y',y',y',y',y',y',y',y',y',y',y',y',y',y',y',y',y',y',y',y',y',y',y',y',y',y',y',y',y',y',y',y',y',y',y',y',y',n',n',n',n',n',n',n',n',n',n',n'] rfl rfl (any_of HT_.out (by kernel_rfl)) (fun _ _ _ h=>h) (Or.inr ⟨by rfl,rfl⟩) ?_ ?_
           rotate_left
           ·simp only [Act.put,List.setIfInBounds_toArray,List.set_cons_zero,List.set_cons_succ,i64_w,i32_w]
            rfl
           refine pure_ (i:=43) (N:=some 56) (v:=undef) (a':=?_) #[y',y',y',y',y',y',y',y',y',y',y',y',y',y',y',y',y',y',y',y',y',y',y',y',y',y',y',y',y',y',y',y',y',y',y',y',y',y',y',y',y',y',y',y',n',n',n',n',n',n',n',n',n',n'] rfl rfl (any_of HT_.out (by kernel_rfl)) (fun _ _ _ h=>h) (Or.inr ⟨by rfl,rfl⟩) ?_ ?_
           rotate_left
           ·simp only [Act.put,List.setIfInBounds_toArray,List.set_cons_zero,List.set_cons_succ,i64_w,i32_w]
            rfl
           refine pure_ (i:=44) (N:=some 57) (v:=undef) (a':=?_) #[y',y',y',y',y',y',y',y',y',y',y',y',y',y',y',y',y',y',y',y',y',y',y',y',y',y',y',y',y',y',y',y',y',y',y',y',y',y',y',y',y',y',y',y',y',n',n',n',n',n',n',n',n',n'] rfl rfl (any_of HT_.out (by kernel_rfl)) (fun _ _ _ h=>h) (Or.inr ⟨by rfl,rfl⟩) ?_ ?_
           rotate_left
           ·simp only [Act.put,List.setIfInBounds_toArray,List.set_cons_zero,List.set_cons_succ,i64_w,i32_w]
            rfl
           refine pure_ (i:=45) (N:=some 58) (v:=undef) (a':=?_) #[y',y',y',y',y',y',y',y',y',y',y',y',y',y',y',y',y',y',y',y',y',y',y',y',y',y',y',y',y',y',y',y',y',y',y',y',y',y',y',y',y',y',y',y',y',y',n',n',n',n',n',n',n',n'] rfl rfl (any_of HT_.out (by kernel_rfl)) (fun _ _ _ h=>h) (Or.inr ⟨by rfl,rfl⟩) ?_ ?_
           rotate_left
           ·simp only [Act.put,List.setIfInBounds_toArray,List.set_cons_zero,List.set_cons_succ,i64_w,i32_w]
            rfl
           refine pure_ (i:=46) (N:=some 59) (v:=undef) (a':=?_) #[y',y',y',y',y',y',y',y',y',y',y',y',y',y',y',y',y',y',y',y',y',y',y',y',y',y',y',y',y',y',y',y',y',y',y',y',y',y',y',y',y',y',y',y',y',y',y',n',n',n',n',n',n',n'] rfl rfl (any_of HT_.out (by kernel_rfl)) (fun _ _ _ h=>h) (Or.inr ⟨by rfl,rfl⟩) ?_ ?_
           rotate_left
           ·simp only [Act.put,List.setIfInBounds_toArray,List.set_cons_zero,List.set_cons_succ,i64_w,i32_w]
            rfl
           refine pure_ (i:=47) (N:=some 60) (v:=undef) (a':=?_) #[y',y',y',y',y',y',y',y',y',y',y',y',y',y',y',y',y',y',y',y',y',y',y',y',y',y',y',y',y',y',y',y',y',y',y',y',y',y',y',y',y',y',y',y',y',y',y',y',n',n',n',n',n',n'] rfl rfl (any_of HT_.out (by kernel_rfl)) (fun _ _ _ h=>h) (Or.inr ⟨by rfl,rfl⟩) ?_ ?_
           rotate_left
           ·simp only [Act.put,List.setIfInBounds_toArray,List.set_cons_zero,List.set_cons_succ,i64_w,i32_w]
            rfl
           refine pure_ (i:=48) (N:=some 61) (v:=undef) (a':=?_) #[y',y',y',y',y',y',y',y',y',y',y',y',y',y',y',y',y',y',y',y',y',y',y',y',y',y',y',y',y',y',y',y',y',y',y',y',y',y',y',y',y',y',y',y',y',y',y',y',y',n',n',n',n',n'] rfl rfl (any_of HT_.out (by kernel_rfl)) (fun _ _ _ h=>h) (Or.inr ⟨by rfl,rfl⟩) ?_ ?_
           rotate_left
           ·simp only [Act.put,List.setIfInBounds_toArray,List.set_cons_zero,List.set_cons_succ,i64_w,i32_w]
            rfl
           refine pure_ (i:=49) (N:=some 62) (v:=undef) (a':=?_) #[y',y',y',y',y',y',y',y',y',y',y',y',y',y',y',y',y',y',y',y',y',y',y',y',y',y',y',y',y',y',y',y',y',y',y',y',y',y',y',y',y',y',y',y',y',y',y',y',y',y',n',n',n',n'] rfl rfl (any_of HT_.out (by kernel_rfl)) (fun _ _ _ h=>h) (Or.inr ⟨by rfl,rfl⟩) ?_ ?_
           rotate_left
           ·simp only [Act.put,List.setIfInBounds_toArray,List.set_cons_zero,List.set_cons_succ,i64_w,i32_w]
            rfl
           refine pure_ (i:=50) (N:=some 63) (v:=undef) (a':=?_) #[y',y',y',y',y',y',y',y',y',y',y',y',y',y',y',y',y',y',y',y',y',y',y',y',y',y',y',y',y',y',y',y',y',y',y',y',y',y',y',y',y',y',y',y',y',y',y',y',y',y',y',n',n',n'] rfl rfl (any_of HT_.out (by kernel_rfl)) (fun _ _ _ h=>h) (Or.inr ⟨by rfl,rfl⟩) ?_ ?_
           rotate_left
           ·simp only [Act.put,List.setIfInBounds_toArray,List.set_cons_zero,List.set_cons_succ,i64_w,i32_w]
            rfl
           refine pure_ (i:=51) (N:=some 64) (v:=undef) (a':=?_) #[y',y',y',y',y',y',y',y',y',y',y',y',y',y',y',y',y',y',y',y',y',y',y',y',y',y',y',y',y',y',y',y',y',y',y',y',y',y',y',y',y',y',y',y',y',y',y',y',y',y',y',y',n',n'] rfl rfl (any_of HT_.out (by kernel_rfl)) (fun _ _ _ h=>h) (Or.inr ⟨by rfl,rfl⟩) ?_ ?_
           rotate_left
           ·simp only [Act.put,List.setIfInBounds_toArray,List.set_cons_zero,List.set_cons_succ,i64_w,i32_w]
            rfl
           refine pure_ (i:=52) (N:=some 65) (v:=undef) (a':=?_) #[y',y',y',y',y',y',y',y',y',y',y',y',y',y',y',y',y',y',y',y',y',y',y',y',y',y',y',y',y',y',y',y',y',y',y',y',y',y',y',y',y',y',y',y',y',y',y',y',y',y',y',y',y',n'] rfl rfl (any_of HT_.out (by kernel_rfl)) (fun _ _ _ h=>h) (Or.inr ⟨by rfl,rfl⟩) ?_ ?_
           rotate_left
           ·simp only [Act.put,List.setIfInBounds_toArray,List.set_cons_zero,List.set_cons_succ,i64_w,i32_w]
            rfl
           refine pure_ (i:=53) (N:=some 66) (v:=?_) (a':=?_) #[y',y',y',y',y',y',y',y',y',y',y',y',y',y',y',y',y',y',y',y',y',y',y',y',y',y',y',y',y',y',y',y',y',y',y',y',y',y',y',y',y',y',y',y',y',y',y',y',y',y',y',y',y',y'] rfl rfl (any_of HT_.out (by kernel_rfl)) (fun _ _ _ h=>h) (Or.inl ⟨by rfl,?_⟩) ?_ ?_
           rotate_left
           ·intro w'
            go_simp
            with_reducible rfl
           rotate_left
           ·simp only [Act.put,List.setIfInBounds_toArray,List.set_cons_zero,List.set_cons_succ,i64_w,i32_w]
            rfl
           refine done_ (done_of HT_.out (by kernel_rfl)) ?_
           try go_wp2
           go_ret
           exact ⟨by first|rfl|(simp [errW_none,errW_some] <;> rfl)|(simp [*,errW_none,errW_some] <;> rfl),by repeat (first|(with_reducible first|exact HB.out|apply zA|apply zB|apply zC|refine zF ?_ GE248.out)|exact HB.out)⟩
          ·rw [if_neg c15] at H;have c15b0 : decide (3 < (rd l2 x10_1)) = false:=decide_eq_false c15;clear c15;replace H:=Option.bind_eq_some_iff.mp H;obtain ⟨t254,A170,H⟩:=H;replace H : (if (rd l1 x10_1) = t254 then (if x10_1 < (l0_3.length : Int) then ((laws_wLamp.f k1 (rd_L3 l0_3 x10_1) (rd l1 x10_1)).bind fun t258=>(if (rd l2 x10_1) = t258 then (laws_wAgrees.l0 k1 l1 l2 (l2.length : Int) (wrap64 (x10_1 + 1)) l0_0 l0_1 l0_2 l0_3) else (some false))) else (none)) else (some false)) = some r:=H
           have A17:=zm A170;clear A170;by_cases c18 : (rd l1 x10_1) = t254
           ·rw [if_pos c18] at H;have c18b0 : ((rd l1 x10_1) == t254) = true:=beq_iff_eq.mpr c18;have c18b1 : ((rd l1 x10_1) != t254) = false:=bne_eq_false_iff_eq.mpr c18;clear c18;by_cases c19 : x10_1 < (l0_3.length : Int)
            ·rw [if_pos c19] at H;have c19b0 : decide (x10_1 < (l0_3.length : Int)) = true:=decide_eq_true c19;clear c19;replace H:=Option.bind_eq_some_iff.mp H;obtain ⟨t258,A200,H⟩:=H;replace H : (if (rd l2 x10_1) = t258 then (laws_wAgrees.l0 k1 l1 l2 (l2.length : Int) (wrap64 (x10_1 + 1)) l0_0 l0_1 l0_2 l0_3) else (some false)) = some r:=H;have A20:=zm A200;clear A200;by_cases c21 : (rd l2 x10_1) = t258
             ·rw [if_pos c21] at H;have c21b0 : ((rd l2 x10_1) == t258) = true:=beq_iff_eq.mpr c21;have c21b1 : ((rd l2 x10_1) != t258) = false:=bne_eq_false_iff_eq.mpr c21;clear c21;have H':=zm H;clear H;try go_wp2
              have n0_:=zm (zI BK248.out);have n1_:=zm (zC HB.out);clear BK248;clear HB;have BK248:=n0_;have HB:=n1_;clear n0_ n1_;have p249 : 0 ≤ (x10_1 : Int):=of_decide_eq_true (by first|(with_reducible assumption)|assumption)
              have q249 : x10_1 < (l1.length : Int):=of_decide_eq_true (by first|(with_reducible assumption)|assumption)
              obtain ⟨ad249,e249,hx249_0⟩:=Kd.at_int HR1.out x10_1 p249 q249;have hw249_0:=hx249_0;cases e249;replace hx249_0:=(HB.out.cell (World.block_lt_of_cell? w _ hx249_0)).trans hx249_0;replace p249:=eq_true p249;replace q249:=eq_true q249;have p250 : 0 ≤ (x10_1 : Int):=of_decide_eq_true (by first|(with_reducible assumption)|assumption)
              have q250 : x10_1 < (l1.length : Int):=of_decide_eq_true (by first|(with_reducible assumption)|assumption)
              obtain ⟨ad250,e250,hx250_0⟩:=Kd.at_int HR1.out x10_1 p250 q250;have hw250_0:=hx250_0;obtain rfl : ad249 = ad250:=(by injection e250)
              replace hx250_0:=(HB.out.cell (World.block_lt_of_cell? w _ hx250_0)).trans hx250_0;replace p250:=eq_true p250;replace q250:=eq_true q250;have p251 : 0 ≤ (x10_1 : Int):=of_decide_eq_true (by first|(with_reducible assumption)|assumption)
              have q251 : x10_1 < (l2.length : Int):=of_decide_eq_true (by first|(with_reducible assumption)|assumption)
              obtain ⟨ad251,e251,hx251_0⟩:=Kd.at_int HR2.out x10_1 p251 q251;have hw251_0:=hx251_0;cases e251;replace hx251_0:=(HB.out.cell (World.block_lt_of_cell? w _ hx251_0)).trans hx251_0;replace p251:=eq_true p251;replace q251:=eq_true q251;have p252 : 0 ≤ (x10_1 : Int):=of_decide_eq_true (by first|(with_reducible assumption)|assumption)
              have q252 : x10_1 < (l2.length : Int):=of_decide_eq_true (by first|(with_reducible assumption)|assumption)
              obtain ⟨ad252,e252,hx252_0⟩:=Kd.at_int HR2.out x10_1 p252 q252;have hw252_0:=hx252_0;obtain rfl : ad251 = ad252:=(by injection e252)
              replace hx252_0:=(HB.out.cell (World.block_lt_of_cell? w _ hx252_0)).trans hx252_0;replace p252:=eq_true p252;replace q252:=eq_true q252;have p253 : 0 ≤ (x10_1 : Int):=of_decide_eq_true (by first|(with_reducible assumption)|assumption)
              have q253 : x10_1 < (l1.length : Int):=of_decide_eq_true (by first|(with_reducible assumption)|assumption)
              obtain ⟨ad253,e253,hx253_0⟩:=Kd.at_int HR1.out x10_1 p253 q253;have hw253_0:=hx253_0;obtain rfl : ad249 = ad253:=(by injection e253)
              replace hx253_0:=(HB.out.cell (World.block_lt_of_cell? w _ hx253_0)).trans hx253_0;replace p253:=eq_true p253;replace q253:=eq_true q253;have p255 : 0 ≤ (x10_1 : Int):=of_decide_eq_true (by first|(with_reducible assumption)|assumption)
              have q255 : x10_1 < (l2.length : Int):=of_decide_eq_true (by first|(with_reducible assumption)|assumption)
              obtain ⟨ad255,e255,hx255_0⟩:=Kd.at_int HR2.out x10_1 p255 q255;have hw255_0:=hx255_0;obtain rfl : ad251 = ad255:=(by injection e255)
              replace hx255_0:=(HB.out.cell (World.block_lt_of_cell? w _ hx255_0)).trans hx255_0;replace p255:=eq_true p255;replace q255:=eq_true q255;have p256 : 0 ≤ (x10_1 : Int):=of_decide_eq_true (by first|(with_reducible assumption)|assumption)
              have q256 : x10_1 < (l0_3.length : Int):=of_decide_eq_true (by first|(with_reducible assumption)|assumption)
              obtain ⟨ad256,A256_0,c256_0,e256,hx256_0,hl256_0,hi256_0⟩:=at_L3 HR0_3.out x10_1 p256 q256;have hw256_0:=hx256_0;cases e256;replace hx256_0:=(HB.out.cell (World.block_lt_of_cell? w _ hx256_0)).trans hx256_0;have HR256_0:=zm hi256_0;have HC256_0:=zm hl256_0;clear hi256_0 hl256_0;replace p256:=eq_true p256;replace q256:=eq_true q256;have p257 : 0 ≤ (x10_1 : Int):=of_decide_eq_true (by first|(with_reducible assumption)|assumption)
              have q257 : x10_1 < (l1.length : Int):=of_decide_eq_true (by first|(with_reducible assumption)|assumption)
              obtain ⟨ad257,e257,hx257_0⟩:=Kd.at_int HR1.out x10_1 p257 q257;have hw257_0:=hx257_0;obtain rfl : ad249 = ad257:=(by injection e257)
              replace hx257_0:=(HB.out.cell (World.block_lt_of_cell? w _ hx257_0)).trans hx257_0;replace p257:=eq_true p257;replace q257:=eq_true q257;refine start_ (n:=54) (S:=fun w'=>w'.cell? ⟨gb248,0,none⟩ = some (.slice A0_0 l0_0.length c0_0)∧w'.cell? ⟨gb248,1,none⟩ = some (.slice A0_1 l0_1.length c0_1)∧w'.cell? ⟨gb248,2,none⟩ = some (.slice A0_2 l0_2.length c0_2)∧w'.cell? ⟨gb248,3,none⟩ = some (.slice (some ad256) l0_3.length c0_3)∧w'.cell? (ad249.add (x10_1).toNat) = some (.int .i64 (rd l1 x10_1))∧w'.cell? (ad249.add (x10_1).toNat) = some (.int .i64 (rd l1 x10_1))∧w'.cell? (ad251.add (x10_1).toNat) = some (.int .i64 (rd l2 x10_1))∧w'.cell? (ad251.add (x10_1).toNat) = some (.int .i64 (rd l2 x10_1))∧w'.cell? (ad249.add (x10_1).toNat) = some (.int .i64 (rd l1 x10_1))∧w'.cell? (ad251.add (x10_1).toNat) = some (.int .i64 (rd l2 x10_1))∧w'.cell? (ad256.add (x10_1).toNat) = some (.slice A256_0 (rd_L3 l0_3 x10_1).length c256_0)∧w'.cell? (ad249.add (x10_1).toNat) = some (.int .i64 (rd l1 x10_1))) (ds:=[]) #[n',n',n',n',n',n',n',n',n',n',n',n',n',n',n',n',n',n',n',n',n',n',n',n',n',n',n',n',n',n',n',n',n',n',n',n',n',n',n',n',n',n',n',n',n',n',n',n',n',n',n',n',n',n'] (by kernel_rfl) rfl rfl ⟨(zD BK248.out 0).trans rfl,(zD BK248.out 1).trans rfl,(zD BK248.out 2).trans rfl,(zD BK248.out 3).trans rfl,((HB.out.cell (World.block_lt_of_cell? w _ hw249_0)).trans hw249_0),((HB.out.cell (World.block_lt_of_cell? w _ hw250_0)).trans hw250_0),((HB.out.cell (World.block_lt_of_cell? w _ hw251_0)).trans hw251_0),((HB.out.cell (World.block_lt_of_cell? w _ hw252_0)).trans hw252_0),((HB.out.cell (World.block_lt_of_cell? w _ hw253_0)).trans hw253_0),((HB.out.cell (World.block_lt_of_cell? w _ hw255_0)).trans hw255_0),((HB.out.cell (World.block_lt_of_cell? w _ hw256_0)).trans hw256_0),((HB.out.cell (World.block_lt_of_cell? w _ hw257_0)).trans hw257_0)⟩ (fun hHeld=>?_);refine with_tabW laws_wAgrees.tab4 laws_wAgrees.bits4 (fun HT_ HW_=>?_)
              generalize wr.drew = w22 at BK248 HB HR256_0 hx249_0 hx250_0 hx251_0 hx252_0 hx253_0 hx255_0 hx256_0 hx257_0 hHeld ⊢
              refine pure_ (i:=0) (N:=some 13) (v:=?_) (a':=?_) #[y',n',n',n',n',n',n',n',n',n',n',n',n',n',n',n',n',n',n',n',n',n',n',n',n',n',n',n',n',n',n',n',n',n',n',n',n',n',n',n',n',n',n',n',n',n',n',n',n',n',n',n',n',n'] rfl rfl (any_of HT_.out (by kernel_rfl)) (fun _ _ _ h=>h) (Or.inl ⟨by rfl,?_⟩) ?_ ?_
              rotate_left
              ·intro w'
               go_simp
               with_reducible rfl
              rotate_left
              ·simp only [Act.put,List.setIfInBounds_toArray,List.set_cons_zero,List.set_cons_succ,i64_w,i32_w]
               rfl
              refine pure_ (i:=1) (N:=some 14) (v:=?_) (a':=?_) #[y',y',n',n',n',n',n',n',n',n',n',n',n',n',n',n',n',n',n',n',n',n',n',n',n',n',n',n',n',n',n',n',n',n',n',n',n',n',n',n',n',n',n',n',n',n',n',n',n',n',n',n',n',n'] rfl rfl (any_of HT_.out (by kernel_rfl)) (fun _ _ _ h=>h) (Or.inl ⟨by rfl,?_⟩) ?_ ?_
              rotate_left
              ·intro w'
               go_simp
               with_reducible rfl
              rotate_left
              ·simp only [Act.put,List.setIfInBounds_toArray,List.set_cons_zero,List.set_cons_succ,i64_w,i32_w]
               rfl
              refine pure_ (i:=2) (N:=some 15) (v:=?_) (a':=?_) #[y',y',y',n',n',n',n',n',n',n',n',n',n',n',n',n',n',n',n',n',n',n',n',n',n',n',n',n',n',n',n',n',n',n',n',n',n',n',n',n',n',n',n',n',n',n',n',n',n',n',n',n',n',n'] rfl rfl (any_of HT_.out (by kernel_rfl)) (fun _ _ _ h=>h) (Or.inl ⟨by rfl,?_⟩) ?_ ?_
              rotate_left
              ·intro w'
               go_simp
               with_reducible rfl
              rotate_left
              ·simp only [Act.put,List.setIfInBounds_toArray,List.set_cons_zero,List.set_cons_succ,i64_w,i32_w]
               rfl
              refine take_ (i:=3) (N:=some 16) (v:=?_) (a':=?_) #[y',y',y',y',n',n',n',n',n',n',n',n',n',n',n',n',n',n',n',n',n',n',n',n',n',n',n',n',n',n',n',n',n',n',n',n',n',n',n',n',n',n',n',n',n',n',n',n',n',n',n',n',n',n'] rfl rfl (take_ofW HT_.out HW_.out (by kernel_rfl)) (fun _ _ _ h=>h) (Or.inl ⟨by rfl,?_⟩) hHeld ?_ ?_
              rotate_left
              ·rintro w' ⟨s0,s1,s2,s3,s4,s5,s6,s7,s8,s9,s10,s11⟩
               go_simp
               with_reducible rfl
              rotate_left
              ·simp only [Act.put,List.setIfInBounds_toArray,List.set_cons_zero,List.set_cons_succ,i64_w,i32_w]
               rfl
              refine pure_ (i:=4) (N:=some 17) (v:=?_) (a':=?_) #[y',y',y',y',y',n',n',n',n',n',n',n',n',n',n',n',n',n',n',n',n',n',n',n',n',n',n',n',n',n',n',n',n',n',n',n',n',n',n',n',n',n',n',n',n',n',n',n',n',n',n',n',n',n'] rfl rfl (any_of HT_.out (by kernel_rfl)) (fun _ _ _ h=>h) (Or.inl ⟨by rfl,?_⟩) ?_ ?_
              rotate_left
              ·intro w'
               go_simp
               with_reducible rfl
              rotate_left
              ·simp only [Act.put,List.setIfInBounds_toArray,List.set_cons_zero,List.set_cons_succ,i64_w,i32_w]
               rfl
              refine pure_ (i:=5) (N:=some 18) (v:=?_) (a':=?_) #[y',y',y',y',y',y',n',n',n',n',n',n',n',n',n',n',n',n',n',n',n',n',n',n',n',n',n',n',n',n',n',n',n',n',n',n',n',n',n',n',n',n',n',n',n',n',n',n',n',n',n',n',n',n'] rfl rfl (any_of HT_.out (by kernel_rfl)) (fun _ _ _ h=>h) (Or.inl ⟨by rfl,?_⟩) ?_ ?_
              rotate_left
              ·intro w'
               go_simp
               with_reducible rfl
              rotate_left
              ·simp only [Act.put,List.setIfInBounds_toArray,List.set_cons_zero,List.set_cons_succ,i64_w,i32_w]
               rfl
              refine pure_ (i:=6) (N:=some 19) (v:=?_) (a':=?_) #[y',y',y',y',y',y',y',n',n',n',n',n',n',n',n',n',n',n',n',n',n',n',n',n',n',n',n',n',n',n',n',n',n',n',n',n',n',n',n',n',n',n',n',n',n',n',n',n',n',n',n',n',n',n'] rfl rfl (any_of HT_.out (by kernel_rfl)) (fun _ _ _ h=>h) (Or.inl ⟨by rfl,?_⟩) ?_ ?_
              rotate_left
              ·intro w'
               go_simp
               with_reducible rfl
              rotate_left
              ·simp only [Act.put,List.setIfInBounds_toArray,List.set_cons_zero,List.set_cons_succ,i64_w,i32_w]
               rfl
              refine pure_ (i:=7) (N:=some 20) (v:=?_) (a':=?_) #[y',y',y',y',y',y',y',y',n',n',n',n',n',n',n',n',n',n',n',n',n',n',n',n',n',n',n',n',n',n',n',n',n',n',n',n',n',n',n',n',n',n',n',n',n',n',n',n',n',n',n',n',n',n'] rfl rfl (any_of HT_.out (by kernel_rfl)) (fun _ _ _ h=>h) (Or.inl ⟨by rfl,?_⟩) ?_ ?_
              rotate_left
              ·intro w'
               go_simp
               with_reducible rfl
              rotate_left
              ·simp only [Act.put,List.setIfInBounds_toArray,List.set_cons_zero,List.set_cons_succ,i64_w,i32_w]
               rfl
              refine pure_ (i:=8) (N:=some 21) (v:=?_) (a':=?_) #[y',y',y',y',y',y',y',y',y',n',n',n',n',n',n',n',n',n',n',n',n',n',n',n',n',n',n',n',n',n',n',n',n',n',n',n',n',n',n',n',n',n',n',n',n',n',n',n',n',n',n',n',n',n'] rfl rfl (any_of HT_.out (by kernel_rfl)) (fun _ _ _ h=>h) (Or.inl ⟨by rfl,?_⟩) ?_ ?_
              rotate_left
              ·intro w'
               go_simp
               with_reducible rfl
              rotate_left
              ·simp only [Act.put,List.setIfInBounds_toArray,List.set_cons_zero,List.set_cons_succ,i64_w,i32_w]
               rfl
              refine take_ (i:=9) (N:=some 22) (v:=?_) (a':=?_) #[y',y',y',y',y',y',y',y',y',y',n',n',n',n',n',n',n',n',n',n',n',n',n',n',n',n',n',n',n',n',n',n',n',n',n',n',n',n',n',n',n',n',n',n',n',n',n',n',n',n',n',n',n',n'] rfl rfl (take_ofW HT_.out HW_.out (by kernel_rfl)) (fun _ _ _ h=>h) (Or.inl ⟨by rfl,?_⟩) hHeld ?_ ?_
              rotate_left
              ·rintro w' ⟨s0,s1,s2,s3,s4,s5,s6,s7,s8,s9,s10,s11⟩
               go_simp
               with_reducible rfl
              rotate_left
              ·simp only [Act.put,List.setIfInBounds_toArray,List.set_cons_zero,List.set_cons_succ,i64_w,i32_w]
               rfl
              refine pure_ (i:=10) (N:=some 23) (v:=?_) (a':=?_) #[y',y',y',y',y',y',y',y',y',y',y',n',n',n',n',n',n',n',n',n',n',n',n',n',n',n',n',n',n',n',n',n',n',n',n',n',n',n',n',n',n',n',n',n',n',n',n',n',n',n',n',n',n',n'] rfl rfl (any_of HT_.out (by kernel_rfl)) (fun _ _ _ h=>h) (Or.inl ⟨by rfl,?_⟩) ?_ ?_
              rotate_left
              ·intro w'
               go_simp
               with_reducible rfl
              rotate_left
              ·simp only [Act.put,List.setIfInBounds_toArray,List.set_cons_zero,List.set_cons_succ,i64_w,i32_w]
               rfl
              refine pure_ (i:=11) (N:=some 24) (v:=?_) (a':=?_) #[y',y',y',y',y',y',y',y',y',y',y',y',n',n',n',n',n',n',n',n',n',n',n',n',n',n',n',n',n',n',n',n',n',n',n',n',n',n',n',n',n',n',n',n',n',n',n',n',n',n',n',n',n',n'] rfl rfl (any_of HT_.out (by kernel_rfl)) (fun _ _ _ h=>h) (Or.inl ⟨by rfl,?_⟩) ?_ ?_
              rotate_left
              ·intro w'
               go_simp
               with_reducible rfl
              rotate_left
              ·simp only [Act.put,List.setIfInBounds_toArray,List.set_cons_zero,List.set_cons_succ,i64_w,i32_w]
               rfl
              refine pure_ (i:=12) (N:=some 25) (v:=?_) (a':=?_) #[y',y',y',y',y',y',y',y',y',y',y',y',y',n',n',n',n',n',n',n',n',n',n',n',n',n',n',n',n',n',n',n',n',n',n',n',n',n',n',n',n',n',n',n',n',n',n',n',n',n',n',n',n',n'] rfl rfl (any_of HT_.out (by kernel_rfl)) (fun _ _ _ h=>h) (Or.inl ⟨by rfl,?_⟩) ?_ ?_
              rotate_left
              ·intro w'
               go_simp
               with_reducible rfl
              rotate_left
              ·simp only [Act.put,List.setIfInBounds_toArray,List.set_cons_zero,List.set_cons_succ,i64_w,i32_w]
               rfl
              refine pure_ (i:=13) (N:=some 26) (v:=?_) (a':=?_) #[y',y',y',y',y',y',y',y',y',y',y',y',y',y',n',n',n',n',n',n',n',n',n',n',n',n',n',n',n',n',n',n',n',n',n',n',n',n',n',n',n',n',n',n',n',n',n',n',n',n',n',n',n',n'] rfl rfl (any_of HT_.out (by kernel_rfl)) (fun _ _ _ h=>h) (Or.inl ⟨by rfl,?_⟩) ?_ ?_
              rotate_left
              ·intro w'
               go_simp
               with_reducible rfl
              rotate_left
              ·simp only [Act.put,List.setIfInBounds_toArray,List.set_cons_zero,List.set_cons_succ,i64_w,i32_w]
               rfl
              refine pure_ (i:=14) (N:=some 27) (v:=?_) (a':=?_) #[y',y',y',y',y',y',y',y',y',y',y',y',y',y',y',n',n',n',n',n',n',n',n',n',n',n',n',n',n',n',n',n',n',n',n',n',n',n',n',n',n',n',n',n',n',n',n',n',n',n',n',n',n',n'] rfl rfl (any_of HT_.out (by kernel_rfl)) (fun _ _ _ h=>h) (Or.inl ⟨by rfl,?_⟩) ?_ ?_
              rotate_left
              ·intro w'
               go_simp
               with_reducible rfl
              rotate_left
              ·simp only [Act.put,List.setIfInBounds_toArray,List.set_cons_zero,List.set_cons_succ,i64_w,i32_w]
               rfl
              refine pure_ (i:=15) (N:=some 28) (v:=?_) (a':=?_) #[y',y',y',y',y',y',y',y',y',y',y',y',y',y',y',y',n',n',n',n',n',n',n',n',n',n',n',n',n',n',n',n',n',n',n',n',n',n',n',n',n',n',n',n',n',n',n',n',n',n',n',n',n',n'] rfl rfl (any_of HT_.out (by kernel_rfl)) (fun _ _ _ h=>h) (Or.inl ⟨by rfl,?_⟩) ?_ ?_
              rotate_left
              ·intro w'
               go_simp
               with_reducible rfl
              rotate_left
              ·simp only [Act.put,List.setIfInBounds_toArray,List.set_cons_zero,List.set_cons_succ,i64_w,i32_w]
               rfl
              refine take_ (i:=16) (N:=some 29) (v:=?_) (a':=?_) #[y',y',y',y',y',y',y',y',y',y',y',y',y',y',y',y',y',n',n',n',n',n',n',n',n',n',n',n',n',n',n',n',n',n',n',n',n',n',n',n',n',n',n',n',n',n',n',n',n',n',n',n',n',n'] rfl rfl (take_ofW HT_.out HW_.out (by kernel_rfl)) (fun _ _ _ h=>h) (Or.inl ⟨by rfl,?_⟩) hHeld ?_ ?_
              rotate_left
              ·rintro w' ⟨s0,s1,s2,s3,s4,s5,s6,s7,s8,s9,s10,s11⟩
               go_simp
               with_reducible rfl
              rotate_left
              ·simp only [Act.put,List.setIfInBounds_toArray,List.set_cons_zero,List.set_cons_succ,i64_w,i32_w]
               rfl
              refine pure_ (i:=17) (N:=some 30) (v:=?_) (a':=?_) #[y',y',y',y',y',y',y',y',y',y',y',y',y',y',y',y',y',y',n',n',n',n',n',n',n',n',n',n',n',n',n',n',n',n',n',n',n',n',n',n',n',n',n',n',n',n',n',n',n',n',n',n',n',n'] rfl rfl (any_of HT_.out (by kernel_rfl)) (fun _ _ _ h=>h) (Or.inl ⟨by rfl,?_⟩) ?_ ?_
              rotate_left
              ·intro w'
               go_simp
               with_reducible rfl
              rotate_left
              ·simp only [Act.put,List.setIfInBounds_toArray,List.set_cons_zero,List.set_cons_succ,i64_w,i32_w]
               rfl
              refine pure_ (i:=18) (N:=some 31) (v:=?_) (a':=?_) #[y',y',y',y',y',y',y',y',y',y',y',y',y',y',y',y',y',y',y',n',n',n',n',n',n',n',n',n',n',n',n',n',n',n',n',n',n',n',n',n',n',n',n',n',n',n',n',n',n',n',n',n',n',n'] rfl rfl (any_of HT_.out (by kernel_rfl)) (fun _ _ _ h=>h) (Or.inl ⟨by rfl,?_⟩) ?_ ?_
              rotate_left
              ·intro w'
               go_simp
               with_reducible rfl
              rotate_left
              ·simp only [Act.put,List.setIfInBounds_toArray,List.set_cons_zero,List.set_cons_succ,i64_w,i32_w]
               rfl
              refine pure_ (i:=19) (N:=some 32) (v:=?_) (a':=?_) #[y',y',y',y',y',y',y',y',y',y',y',y',y',y',y',y',y',y',y',y',n',n',n',n',n',n',n',n',n',n',n',n',n',n',n',n',n',n',n',n',n',n',n',n',n',n',n',n',n',n',n',n',n',n'] rfl rfl (any_of HT_.out (by kernel_rfl)) (fun _ _ _ h=>h) (Or.inl ⟨by rfl,?_⟩) ?_ ?_
              rotate_left
              ·intro w'
               go_simp
               with_reducible rfl
              rotate_left
              ·simp only [Act.put,List.setIfInBounds_toArray,List.set_cons_zero,List.set_cons_succ,i64_w,i32_w]
               rfl
              refine pure_ (i:=20) (N:=some 33) (v:=?_) (a':=?_) #[y',y',y',y',y',y',y',y',y',y',y',y',y',y',y',y',y',y',y',y',y',n',n',n',n',n',n',n',n',n',n',n',n',n',n',n',n',n',n',n',n',n',n',n',n',n',n',n',n',n',n',n',n',n'] rfl rfl (any_of HT_.out (by kernel_rfl)) (fun _ _ _ h=>h) (Or.inl ⟨by rfl,?_⟩) ?_ ?_
              rotate_left
              ·intro w'
               go_simp
               with_reducible rfl
              rotate_left
              ·simp only [Act.put,List.setIfInBounds_toArray,List.set_cons_zero,List.set_cons_succ,i64_w,i32_w]
               rfl
              refine pure_ (i:=21) (N:=some 34) (v:=?_) (a':=?_) #[y',y',y',y',y',y',y',y',y',y',y',y',y',y',y',y',y',y',y',y',y',y',n',n',n',n',n',n',n',n',n',n',n',n',n',n',n',n',n',n',n',n',n',n',n',n',n',n',n',n',n',n',n',n'] rfl rfl (any_of HT_.out (by kernel_rfl)) (fun _ _ _ h=>h) (Or.inl ⟨by rfl,?_⟩) ?_ ?_
              rotate_left
              ·intro w'
               go_simp
               with_reducible rfl
              rotate_left
              ·simp only [Act.put,List.setIfInBounds_toArray,List.set_cons_zero,List.set_cons_succ,i64_w,i32_w]
               rfl
              refine pure_ (i:=22) (N:=some 35) (v:=?_) (a':=?_) #[y',y',y',y',y',y',y',y',y',y',y',y',y',y',y',y',y',y',y',y',y',y',y',n',n',n',n',n',n',n',n',n',n',n',n',n',n',n',n',n',n',n',n',n',n',n',n',n',n',n',n',n',n',n'] rfl rfl (any_of HT_.out (by kernel_rfl)) (fun _ _ _ h=>h) (Or.inl ⟨by rfl,?_⟩) ?_ ?_
              rotate_left
              ·intro w'
               go_simp
               with_reducible rfl
              rotate_left
              ·simp only [Act.put,List.setIfInBounds_toArray,List.set_cons_zero,List.set_cons_succ,i64_w,i32_w]
               rfl
              refine take_ (i:=23) (N:=some 36) (v:=?_) (a':=?_) #[y',y',y',y',y',y',y',y',y',y',y',y',y',y',y',y',y',y',y',y',y',y',y',y',n',n',n',n',n',n',n',n',n',n',n',n',n',n',n',n',n',n',n',n',n',n',n',n',n',n',n',n',n',n'] rfl rfl (take_ofW HT_.out HW_.out (by kernel_rfl)) (fun _ _ _ h=>h) (Or.inl ⟨by rfl,?_⟩) hHeld ?_ ?_
              rotate_left
              ·rintro w' ⟨s0,s1,s2,s3,s4,s5,s6,s7,s8,s9,s10,s11⟩
               go_simp
               with_reducible rfl
              rotate_left
              ·simp only [Act.put,List.setIfInBounds_toArray,List.set_cons_zero,List.set_cons_succ,i64_w,i32_w]
               rfl
              refine pure_ (i:=24) (N:=some 37) (v:=?_) (a':=?_) #[y',y',y',y',y',y',y',y',y',y',y',y',y',y',y',y',y',y',y',y',y',y',y',y',y',n',n',n',n',n',n',n',n',n',n',n',n',n',n',n',n',n',n',n',n',n',n',n',n',n',n',n',n',n'] rfl rfl (any_of HT_.out (by kernel_rfl)) (fun _ _ _ h=>h) (Or.inl ⟨by rfl,?_⟩) ?_ ?_
              rotate_left
              ·intro w'
               go_simp
               with_reducible rfl
              rotate_left
              ·simp only [Act.put,List.setIfInBounds_toArray,List.set_cons_zero,List.set_cons_succ,i64_w,i32_w]
               rfl
              refine pure_ (i:=25) (N:=some 38) (v:=?_) (a':=?_) #[y',y',y',y',y',y',y',y',y',y',y',y',y',y',y',y',y',y',y',y',y',y',y',y',y',y',n',n',n',n',n',n',n',n',n',n',n',n',n',n',n',n',n',n',n',n',n',n',n',n',n',n',n',n'] rfl rfl (any_of HT_.out (by kernel_rfl)) (fun _ _ _ h=>h) (Or.inl ⟨by rfl,?_⟩) ?_ ?_
              rotate_left
              ·intro w'
               go_simp
               with_reducible rfl
              rotate_left
              ·simp only [Act.put,List.setIfInBounds_toArray,List.set_cons_zero,List.set_cons_succ,i64_w,i32_w]
               rfl
              refine pure_ (i:=26) (N:=some 39) (v:=?_) (a':=?_) #[y',y',y',y',y',y',y',y',y',y',y',y',y',y',y',y',y',y',y',y',y',y',y',y',y',y',y',n',n',n',n',n',n',n',n',n',n',n',n',n',n',n',n',n',n',n',n',n',n',n',n',n',n',n'] rfl rfl (any_of HT_.out (by kernel_rfl)) (fun _ _ _ h=>h) (Or.inl ⟨by rfl,?_⟩) ?_ ?_
              rotate_left
              ·intro w'
               go_simp
               with_reducible rfl
              rotate_left
              ·simp only [Act.put,List.setIfInBounds_toArray,List.set_cons_zero,List.set_cons_succ,i64_w,i32_w]
               rfl
              refine pure_ (i:=27) (N:=some 40) (v:=?_) (a':=?_) #[y',y',y',y',y',y',y',y',y',y',y',y',y',y',y',y',y',y',y',y',y',y',y',y',y',y',y',y',n',n',n',n',n',n',n',n',n',n',n',n',n',n',n',n',n',n',n',n',n',n',n',n',n',n'] rfl rfl (any_of HT_.out (by kernel_rfl)) (fun _ _ _ h=>h) (Or.inl ⟨by rfl,?_⟩) ?_ ?_
              rotate_left
              ·intro w'
               go_simp
               with_reducible rfl
              rotate_left
              ·simp only [Act.put,List.setIfInBounds_toArray,List.set_cons_zero,List.set_cons_succ,i64_w,i32_w]
               rfl
              refine pure_ (i:=28) (N:=some 41) (v:=?_) (a':=?_) #[y',y',y',y',y',y',y',y',y',y',y',y',y',y',y',y',y',y',y',y',y',y',y',y',y',y',y',y',y',n',n',n',n',n',n',n',n',n',n',n',n',n',n',n',n',n',n',n',n',n',n',n',n',n'] rfl rfl (any_of HT_.out (by kernel_rfl)) (fun _ _ _ h=>h) (Or.inl ⟨by rfl,?_⟩) ?_ ?_
              rotate_left
              ·intro w'
               go_simp
               with_reducible rfl
              rotate_left
              ·simp only [Act.put,List.setIfInBounds_toArray,List.set_cons_zero,List.set_cons_succ,i64_w,i32_w]
               rfl
              refine pure_ (i:=29) (N:=some 42) (v:=?_) (a':=?_) #[y',y',y',y',y',y',y',y',y',y',y',y',y',y',y',y',y',y',y',y',y',y',y',y',y',y',y',y',y',y',n',n',n',n',n',n',n',n',n',n',n',n',n',n',n',n',n',n',n',n',n',n',n',n'] rfl rfl (any_of HT_.out (by kernel_rfl)) (fun _ _ _ h=>h) (Or.inl ⟨by rfl,?_⟩) ?_ ?_
              rotate_left
              ·intro w'
               go_simp
               with_reducible rfl
              rotate_left
              ·simp only [Act.put,List.setIfInBounds_toArray,List.set_cons_zero,List.set_cons_succ,i64_w,i32_w]
               rfl
              refine pure_ (i:=32) (N:=some 45) (v:=?_) (a':=?_) #[y',y',y',y',y',y',y',y',y',y',y',y',y',y',y',y',y',y',y',y',y',y',y',y',y',y',y',y',y',y',n',n',y',n',n',n',n',n',n',n',n',n',n',n',n',n',n',n',n',n',n',n',n',n'] rfl rfl (any_of HT_.out (by kernel_rfl)) (fun _ _ _ h=>h) (Or.inl ⟨by rfl,?_⟩) ?_ ?_
              rotate_left
              ·intro w'
               go_simp
               with_reducible rfl
              rotate_left
              ·simp only [Act.put,List.setIfInBounds_toArray,List.set_cons_zero,List.set_cons_succ,i64_w,i32_w]
               rfl
              refine pure_ (i:=33) (N:=some 46) (v:=?_) (a':=?_) #[y',y',y',y',y',y',y',y',y',y',y',y',y',y',y',y',y',y',y',y',y',y',y',y',y',y',y',y',y',y',n',n',y',y',n',n',n',n',n',n',n',n',n',n',n',n',n',n',n',n',n',n',n',n'] rfl rfl (any_of HT_.out (by kernel_rfl)) (fun _ _ _ h=>h) (Or.inl ⟨by rfl,?_⟩) ?_ ?_
              rotate_left
              ·intro w'
               go_simp
               with_reducible rfl
              rotate_left
              ·simp only [Act.put,List.setIfInBounds_toArray,List.set_cons_zero,List.set_cons_succ,i64_w,i32_w]
               rfl
              refine take_ (i:=30) (N:=some 43) (v:=?_) (a':=?_) #[y',y',y',y',y',y',y',y',y',y',y',y',y',y',y',y',y',y',y',y',y',y',y',y',y',y',y',y',y',y',y',n',y',y',n',n',n',n',n',n',n',n',n',n',n',n',n',n',n',n',n',n',n',n'] rfl rfl (take_ofW HT_.out HW_.out (by kernel_rfl)) (fun _ _ _ h=>h) (Or.inl ⟨by rfl,?_⟩) hHeld ?_ ?_
              rotate_left
              ·rintro w' ⟨s0,s1,s2,s3,s4,s5,s6,s7,s8,s9,s10,s11⟩
               go_simp
               with_reducible rfl
              rotate_left
              ·simp only [Act.put,List.setIfInBounds_toArray,List.set_cons_zero,List.set_cons_succ,i64_w,i32_w]
               rfl
              refine take_ (i:=31) (N:=some 44) (v:=?_) (a':=?_) #[y',y',y',y',y',y',y',y',y',y',y',y',y',y',y',y',y',y',y',y',y',y',y',y',y',y',y',y',y',y',y',y',y',y',n',n',n',n',n',n',n',n',n',n',n',n',n',n',n',n',n',n',n',n'] rfl rfl (take_ofW HT_.out HW_.out (by kernel_rfl)) (fun _ _ _ h=>h) (Or.inl ⟨by rfl,?_⟩) hHeld ?_ ?_
              rotate_left
              ·rintro w' ⟨s0,s1,s2,s3,s4,s5,s6,s7,s8,s9,s10,s11⟩
               go_simp
               with_reducible rfl
              rotate_left
              ·simp only [Act.put,List.setIfInBounds_toArray,List.set_cons_zero,List.set_cons_succ,i64_w,i32_w]
               rfl
              refine one_ (i:=34) (N:=some 47) #[y',y',y',y',y',y',y',y',y',y',y',y',y',y',y',y',y',y',y',y',y',y',y',y',y',y',y',y',y',y',y',y',y',y',y',n',n',n',n',n',n',n',n',n',n',n',n',n',n',n',n',n',n',n'] rfl rfl (one_of HT_.out (by kernel_rfl)) (by decide) (fun K hK=>?_)
              refine goes_ Try.func21 (by kernel_rfl) rfl #[.agg #[.slice A0_0 l0_0.length c0_0,.slice A0_1 l0_1.length c0_1,.slice A0_2 l0_2.length c0_2,.slice (some ad256) l0_3.length c0_3],.slice (some ad251) l2.length c2,.int .i64 x10_1] (by rfl) rfl rfl (by (try simp only [List.map_toArray,List.map_cons,List.map_nil]);first|done|rfl|(simp only [List.length_drop,List.length_take];rfl)) ?_
              with_reducible refine (laws_wWant.calls _ _ l0_0 _ _ l0_1 _ _ l0_2 _ _ l0_3 _ _ l2 x10_1 t254 _ ?side1 ?side2 ?side3 ?side4 ?side5 ?side6 ?side7 ?side8 ?side9 ?side10 A17.out).mono ?_
              (case side1=>repeat (first|exact (zY HR0_0.out HB.out)|(with_reducible refine zT ?_ _)|(with_reducible refine zU ?_ _)|(with_reducible refine zV ?_)))
              (case side2=>exact HC0_0.out)
              (case side3=>repeat (first|exact (zY HR0_1.out HB.out)|(with_reducible refine zT ?_ _)|(with_reducible refine zU ?_ _)|(with_reducible refine zV ?_)))
              (case side4=>exact HC0_1.out)
              (case side5=>repeat (first|exact (zY HR0_2.out HB.out)|(with_reducible refine zT ?_ _)|(with_reducible refine zU ?_ _)|(with_reducible refine zV ?_)))
              (case side6=>exact HC0_2.out)
              (case side7=>repeat (first|exact (zY HR0_3.out HB.out)|(with_reducible refine zT ?_ _)|(with_reducible refine zU ?_ _)|(with_reducible refine zV ?_)))
              (case side8=>exact HC0_3.out)
              (case side9=>repeat (first|exact (zY HR2.out HB.out)|(with_reducible refine zT ?_ _)|(with_reducible refine zU ?_ _)|(with_reducible refine zV ?_)))
              (case side10=>exact HC2.out)
              rintro e w23 ⟨rfl,hb⟩
              refine ⟨_,rfl,?_⟩
              have n0_:=zm (zL (g:=gb248) (o:=.cells #[.slice A0_0 l0_0.length c0_0,.slice A0_1 l0_1.length c0_1,.slice A0_2 l0_2.length c0_2,.slice (some ad256) l0_3.length c0_3] 27 (0,0)) (by (with_reducible repeat (first|refine zH ?_ _|refine zI ?_|refine zG ?_ _));exact BK248.out) hb)
              have n1_:=zm (zK (by repeat (first|(with_reducible first|exact HB.out|apply zA|apply zB|apply zC|refine zF ?_ GE248.out)|exact HB.out)) hb)
              clear BK248;clear HB;have BK248:=n0_;have HB:=n1_;clear n0_ n1_;(try clear hb);(try clear hb2);(try clear hk);(try clear hi);refine hK.out _ _ ⟨(zD BK248.out 0).trans rfl,(zD BK248.out 1).trans rfl,(zD BK248.out 2).trans rfl,(zD BK248.out 3).trans rfl,((HB.out.cell (World.block_lt_of_cell? w _ hw249_0)).trans hw249_0),((HB.out.cell (World.block_lt_of_cell? w _ hw250_0)).trans hw250_0),((HB.out.cell (World.block_lt_of_cell? w _ hw251_0)).trans hw251_0),((HB.out.cell (World.block_lt_of_cell? w _ hw252_0)).trans hw252_0),((HB.out.cell (World.block_lt_of_cell? w _ hw253_0)).trans hw253_0),((HB.out.cell (World.block_lt_of_cell? w _ hw255_0)).trans hw255_0),((HB.out.cell (World.block_lt_of_cell? w _ hw256_0)).trans hw256_0),((HB.out.cell (World.block_lt_of_cell? w _ hw257_0)).trans hw257_0)⟩ (fun hHeld=>?_)
              clear hK K;refine norm_ (a':=?_) ?_ ?_
              rotate_left
              ·show Act.put _ (some 47) _ = _
               simp only [Act.put,List.setIfInBounds_toArray,List.set_cons_zero,List.set_cons_succ,i64_w,i32_w]
               rfl
              refine pure_ (i:=35) (N:=some 48) (v:=?_) (a':=?_) #[y',y',y',y',y',y',y',y',y',y',y',y',y',y',y',y',y',y',y',y',y',y',y',y',y',y',y',y',y',y',y',y',y',y',y',y',n',n',n',n',n',n',n',n',n',n',n',n',n',n',n',n',n',n'] rfl rfl (any_of HT_.out (by kernel_rfl)) (fun _ _ _ h=>h) (Or.inl ⟨by rfl,?_⟩) ?_ ?_
              rotate_left
              ·intro w'
               go_simp
               with_reducible rfl
              rotate_left
              ·simp only [Act.put,List.setIfInBounds_toArray,List.set_cons_zero,List.set_cons_succ,i64_w,i32_w]
               rfl
              refine pure_ (i:=36) (N:=some 49) (v:=?_) (a':=?_) #[y',y',y',y',y',y',y',y',y',y',y',y',y',y',y',y',y',y',y',y',y',y',y',y',y',y',y',y',y',y',y',y',y',y',y',y',y',n',n',n',n',n',n',n',n',n',n',n',n',n',n',n',n',n'] rfl rfl (any_of HT_.out (by kernel_rfl)) (fun _ _ _ h=>h) (Or.inl ⟨by rfl,?_⟩) ?_ ?_
              rotate_left
              ·intro w'
               go_simp
               with_reducible rfl
              rotate_left
              ·simp only [Act.put,List.setIfInBounds_toArray,List.set_cons_zero,List.set_cons_succ,i64_w,i32_w]
               rfl
              refine pure_ (i:=37) (N:=some 50) (v:=?_) (a':=?_) #[y',y',y',y',y',y',y',y',y',y',y',y',y',y',y',y',y',y',y',y',y',y',y',y',y',y',y',y',y',y',y',y',y',y',y',y',y',y',n',n',n',n',n',n',n',n',n',n',n',n',n',n',n',n'] rfl rfl (any_of HT_.out (by kernel_rfl)) (fun _ _ _ h=>h) (Or.inl ⟨by rfl,?_⟩) ?_ ?_
              rotate_left
              ·intro w'
               go_simp
               with_reducible rfl
              rotate_left
              ·simp only [Act.put,List.setIfInBounds_toArray,List.set_cons_zero,List.set_cons_succ,i64_w,i32_w]
               rfl
              refine pure_ (i:=38) (N:=some 51) (v:=?_) (a':=?_) #[y',y',y',y',y',y',y',y',y',y',y',y',y',y',y',y',y',y',y',y',y',y',y',y',y',y',y',y',y',y',y',y',y',y',y',y',y',y',y',n',n',n',n',n',n',n',n',n',n',n',n',n',n',n'] rfl rfl (any_of HT_.out (by kernel_rfl)) (fun _ _ _ h=>h) (Or.inl ⟨by rfl,?_⟩) ?_ ?_
              rotate_left
              ·intro w'
               go_simp
               with_reducible rfl
              rotate_left
              ·simp only [Act.put,List.setIfInBounds_toArray,List.set_cons_zero,List.set_cons_succ,i64_w,i32_w]
               rfl
              refine pure_ (i:=39) (N:=some 52) (v:=?_) (a':=?_) #[y',y',y',y',y',y',y',y',y',y',y',y',y',y',y',y',y',y',y',y',y',y',y',y',y',y',y',y',y',y',y',y',y',y',y',y',y',y',y',y',n',n',n',n',n',n',n',n',n',n',n',n',n',n'] rfl rfl (any_of HT_.out (by kernel_rfl)) (fun _ _ _ h=>h) (Or.inl ⟨by rfl,?_⟩) ?_ ?_
              rotate_left
              ·intro w'
               go_simp
               with_reducible rfl
              rotate_left
              ·simp only [Act.put,List.setIfInBounds_toArray,List.set_cons_zero,List.set_cons_succ,i64_w,i32_w]
               rfl
              refine pure_ (i:=40) (N:=some 53) (v:=?_) (a':=?_) #[y',y',y',y',y',y',y',y',y',y',y',y',y',y',y',y',y',y',y',y',y',y',y',y',y',y',y',y',y',y',y',y',y',y',y',y',y',y',y',y',y',n',n',n',n',n',n',n',n',n',n',n',n',n'] rfl rfl (any_of HT_.out (by kernel_rfl)) (fun _ _ _ h=>h) (Or.inl ⟨by rfl,?_⟩) ?_ ?_
              rotate_left
              ·intro w'
               go_simp
               with_reducible rfl
              rotate_left
              ·simp only [Act.put,List.setIfInBounds_toArray,List.set_cons_zero,List.set_cons_succ,i64_w,i32_w]
               rfl
              refine pure_ (i:=42) (N:=some 55) (v:=?_) (a':=?_) #[y',y',y',y',y',y',y',y',y',y',y',y',y',y',y',y',y',y',y',y',y',y',y',y',y',y',y',y',y',y',y',y',y',y',y',y',y',y',y',y',y',n',y',n',n',n',n',n',n',n',n',n',n',n'] rfl rfl (any_of HT_.out (by kernel_rfl)) (fun _ _ _ h=>h) (Or.inl ⟨by rfl,?_⟩) ?_ ?_
              rotate_left
              ·intro w'
               go_simp
               with_reducible rfl
              rotate_left
              ·simp only [Act.put,List.setIfInBounds_toArray,List.set_cons_zero,List.set_cons_succ,i64_w,i32_w]
               rfl
              refine pure_ (i:=44) (N:=some 57) (v:=?_) (a':=?_) #[y',y',y',y',y',y',y',y',y',y',y',y',y',y',y',y',y',y',y',y',y',y',y',y',y',y',y',y',y',y',y',y',y',y',y',y',y',y',y',y',y',n',y',n',y',n',n',n',n',n',n',n',n',n'] rfl rfl (any_of HT_.out (by kernel_rfl)) (fun _ _ _ h=>h) (Or.inl ⟨by rfl,?_⟩) ?_ ?_
              rotate_left
              ·intro w'
               go_simp
               with_reducible rfl
              rotate_left
              ·simp only [Act.put,List.setIfInBounds_toArray,List.set_cons_zero,List.set_cons_succ,i64_w,i32_w]
               rfl
              refine pure_ (i:=47) (N:=some 60) (v:=?_) (a':=?_) #[y',y',y',y',y',y',y',y',y',y',y',y',y',y',y',y',y',y',y',y',y',y',y',y',y',y',y',y',y',y',y',y',y',y',y',y',y',y',y',y',y',n',y',n',y',n',n',y',n',n',n',n',n',n'] rfl rfl (any_of HT_.out (by kernel_rfl)) (fun _ _ _ h=>h) (Or.inl ⟨by rfl,?_⟩) ?_ ?_
              rotate_left
              ·intro w'
               go_simp
               with_reducible rfl
              rotate_left
              ·simp only [Act.put,List.setIfInBounds_toArray,List.set_cons_zero,List.set_cons_succ,i64_w,i32_w]
               rfl
              refine pure_ (i:=48) (N:=some 61) (v:=?_) (a':=?_) #[y',y',y',y',y',y',y',y',y',y',y',y',y',y',y',y',y',y',y',y',y',y',y',y',y',y',y',y',y',y',y',y',y',y',y',y',y',y',y',y',y',n',y',n',y',n',n',y',y',n',n',n',n',n'] rfl rfl (any_of HT_.out (by kernel_rfl)) (fun _ _ _ h=>h) (Or.inl ⟨by rfl,?_⟩) ?_ ?_
              rotate_left
              ·intro w'
               go_simp
               with_reducible rfl
              rotate_left
              ·simp only [Act.put,List.setIfInBounds_toArray,List.set_cons_zero,List.set_cons_succ,i64_w,i32_w]
               rfl
              refine pure_ (i:=49) (N:=some 62) (v:=?_) (a':=?_) #[y',y',y',y',y',y',y',y',y',y',y',y',y',y',y',y',y',y',y',y',y',y',y',y',y',y',y',y',y',y',y',y',y',y',y',y',y',y',y',y',y',n',y',n',y',n',n',y',y',y',n',n',n',n'] rfl rfl (any_of HT_.out (by kernel_rfl)) (fun _ _ _ h=>h) (Or.inl ⟨by rfl,?_⟩) ?_ ?_
              rotate_left
              ·intro w'
               go_simp
               with_reducible rfl
              rotate_left
              ·simp only [Act.put,List.setIfInBounds_toArray,List.set_cons_zero,List.set_cons_succ,i64_w,i32_w]
               rfl
              refine take_ (i:=41) (N:=some 54) (v:=?_) (a':=?_) #[y',y',y',y',y',y',y',y',y',y',y',y',y',y',y',y',y',y',y',y',y',y',y',y',y',y',y',y',y',y',y',y',y',y',y',y',y',y',y',y',y',y',y',n',y',n',n',y',y',y',n',n',n',n'] rfl rfl (take_ofW HT_.out HW_.out (by kernel_rfl)) (fun _ _ _ h=>h) (Or.inl ⟨by rfl,?_⟩) hHeld ?_ ?_
              rotate_left
              ·rintro w' ⟨s0,s1,s2,s3,s4,s5,s6,s7,s8,s9,s10,s11⟩
               go_simp
               with_reducible rfl
              rotate_left
              ·simp only [Act.put,List.setIfInBounds_toArray,List.set_cons_zero,List.set_cons_succ,i64_w,i32_w]
               rfl
              refine take_ (i:=43) (N:=some 56) (v:=?_) (a':=?_) #[y',y',y',y',y',y',y',y',y',y',y',y',y',y',y',y',y',y',y',y',y',y',y',y',y',y',y',y',y',y',y',y',y',y',y',y',y',y',y',y',y',y',y',y',y',n',n',y',y',y',n',n',n',n'] rfl rfl (take_ofW HT_.out HW_.out (by kernel_rfl)) (fun _ _ _ h=>h) (Or.inl ⟨by rfl,?_⟩) hHeld ?_ ?_
              rotate_left
              ·rintro w' ⟨s0,s1,s2,s3,s4,s5,s6,s7,s8,s9,s10,s11⟩
               go_simp
               with_reducible rfl
              rotate_left
              ·simp only [Act.put,List.setIfInBounds_toArray,List.set_cons_zero,List.set_cons_succ,i64_w,i32_w]
               rfl
              refine pure_ (i:=45) (N:=some 58) (v:=?_) (a':=?_) #[y',y',y',y',y',y',y',y',y',y',y',y',y',y',y',y',y',y',y',y',y',y',y',y',y',y',y',y',y',y',y',y',y',y',y',y',y',y',y',y',y',y',y',y',y',y',n',y',y',y',n',n',n',n'] rfl rfl (any_of HT_.out (by kernel_rfl)) (fun _ _ _ h=>h) (Or.inl ⟨by rfl,?_⟩) ?_ ?_
              rotate_left
              ·intro w'
               go_simp
               with_reducible rfl
              rotate_left
              ·simp only [Act.put,List.setIfInBounds_toArray,List.set_cons_zero,List.set_cons_succ,i64_w,i32_w]
               rfl
              refine take_ (i:=46) (N:=some 59) (v:=?_) (a':=?_) #[y',y',y',y',y',y',y',y',y',y',y',y',y',y',y',y',y',y',y',y',y',y',y',y',y',y',y',y',y',y',y',y',y',y',y',y',y',y',y',y',y',y',y',y',y',y',y',y',y',y',n',n',n',n'] rfl rfl (take_ofW HT_.out HW_.out (by kernel_rfl)) (fun _ _ _ h=>h) (Or.inl ⟨by rfl,?_⟩) hHeld ?_ ?_
              rotate_left
              ·rintro w' ⟨s0,s1,s2,s3,s4,s5,s6,s7,s8,s9,s10,s11⟩
               go_simp
               with_reducible rfl
              rotate_left
              ·simp only [Act.put,List.setIfInBounds_toArray,List.set_cons_zero,List.set_cons_succ,i64_w,i32_w]
               rfl
              refine take_ (i:=50) (N:=some 63) (v:=?_) (a':=?_) #[y',y',y',y',y',y',y',y',y',y',y',y',y',y',y',y',y',y',y',y',y',y',y',y',y',y',y',y',y',y',y',y',y',y',y',y',y',y',y',y',y',y',y',y',y',y',y',y',y',y',y',n',n',n'] rfl rfl (take_ofW HT_.out HW_.out (by kernel_rfl)) (fun _ _ _ h=>h) (Or.inl ⟨by rfl,?_⟩) hHeld ?_ ?_
              rotate_left
              ·rintro w' ⟨s0,s1,s2,s3,s4,s5,s6,s7,s8,s9,s10,s11⟩
               go_simp
               with_reducible rfl
              rotate_left
              ·simp only [Act.put,List.setIfInBounds_toArray,List.set_cons_zero,List.set_cons_succ,i64_w,i32_w]
               rfl
              refine one_ (i:=51) (N:=some 64) #[y',y',y',y',y',y',y',y',y',y',y',y',y',y',y',y',y',y',y',y',y',y',y',y',y',y',y',y',y',y',y',y',y',y',y',y',y',y',y',y',y',y',y',y',y',y',y',y',y',y',y',y',n',n'] rfl rfl (one_of HT_.out (by kernel_rfl)) (by decide) (fun K hK=>?_)
              refine goes_ Try.func20 (by kernel_rfl) rfl #[.slice A256_0 (rd_L3 l0_3 x10_1).length c256_0,.int .i64 (rd l1 x10_1)] (by rfl) rfl rfl (by (try simp only [List.map_toArray,List.map_cons,List.map_nil]);first|done|rfl|(simp only [List.length_drop,List.length_take];rfl)) ?_
              with_reducible refine (laws_wLamp.calls k1 _ _ (rd_L3 l0_3 x10_1) (rd l1 x10_1) t258 _ ?side1 ?side2 A20.out).mono ?_
              (case side1=>repeat (first|exact (zY HR256_0.out HB.out)|(with_reducible refine zT ?_ _)|(with_reducible refine zU ?_ _)|(with_reducible refine zV ?_)))
              (case side2=>exact HC256_0.out)
              rintro e w' ⟨rfl,⟨nd,rfl⟩⟩
              refine ⟨_,rfl,?_⟩
              refine hK.out _ _ ⟨(zD BK248.out 0).trans rfl,(zD BK248.out 1).trans rfl,(zD BK248.out 2).trans rfl,(zD BK248.out 3).trans rfl,((HB.out.cell (World.block_lt_of_cell? w _ hw249_0)).trans hw249_0),((HB.out.cell (World.block_lt_of_cell? w _ hw250_0)).trans hw250_0),((HB.out.cell (World.block_lt_of_cell? w _ hw251_0)).trans hw251_0),((HB.out.cell (World.block_lt_of_cell? w _ hw252_0)).trans hw252_0),((HB.out.cell (World.block_lt_of_cell? w _ hw253_0)).trans hw253_0),((HB.out.cell (World.block_lt_of_cell? w _ hw255_0)).trans hw255_0),((HB.out.cell (World.block_lt_of_cell? w _ hw256_0)).trans hw256_0),((HB.out.cell (World.block_lt_of_cell? w _ hw257_0)).trans hw257_0)⟩ (fun hHeld=>?_)
              clear hK K;refine norm_ (a':=?_) ?_ ?_
              rotate_left
              ·show Act.put _ (some 64) _ = _
               simp only [Act.put,List.setIfInBounds_toArray,List.set_cons_zero,List.set_cons_succ,i64_w,i32_w]
               rfl
              refine pure_ (i:=52) (N:=some 65) (v:=?_) (a':=?_) #[y',y',y',y',y',y',y',y',y',y',y',y',y',y',y',y',y',y',y',y',y',y',y',y',y',y',y',y',y',y',y',y',y',y',y',y',y',y',y',y',y',y',y',y',y',y',y',y',y',y',y',y',y',n'] rfl rfl (any_of HT_.out (by kernel_rfl)) (fun _ _ _ h=>h) (Or.inl ⟨by rfl,?_⟩) ?_ ?_
              rotate_left
              ·intro w'
               go_simp
               with_reducible rfl
              rotate_left
              ·simp only [Act.put,List.setIfInBounds_toArray,List.set_cons_zero,List.set_cons_succ,i64_w,i32_w]
               rfl
              refine pure_ (i:=53) (N:=some 66) (v:=?_) (a':=?_) #[y',y',y',y',y',y',y',y',y',y',y',y',y',y',y',y',y',y',y',y',y',y',y',y',y',y',y',y',y',y',y',y',y',y',y',y',y',y',y',y',y',y',y',y',y',y',y',y',y',y',y',y',y',y'] rfl rfl (any_of HT_.out (by kernel_rfl)) (fun _ _ _ h=>h) (Or.inl ⟨by rfl,?_⟩) ?_ ?_
              rotate_left
              ·intro w'
               go_simp
               with_reducible rfl
              rotate_left
              ·simp only [Act.put,List.setIfInBounds_toArray,List.set_cons_zero,List.set_cons_succ,i64_w,i32_w]
               rfl
              refine done_ (done_of HT_.out (by kernel_rfl)) ?_
              try go_wp2
              go_roundg k1
              case measure=>have:=HK1.out;omega
              case rel=>exact ⟨(wrap64 (x10_1 + 1)),(by first|rfl|(simp;done)|(simp [*];done)),H',⟨by have:=HK1.out;omega⟩,⟨by (with_reducible repeat (first|refine zH ?_ _|refine zI ?_|refine zG ?_ _));exact BK248.out⟩,⟨by repeat (first|(with_reducible first|exact HB.out|apply zA|apply zB|apply zC|refine zF ?_ GE248.out)|exact HB.out)⟩⟩
             ·rw [if_neg c21] at H;have c21b0 : ((rd l2 x10_1) == t258) = false:=beq_eq_false_iff_ne.mpr c21;have c21b1 : ((rd l2 x10_1) != t258) = true:=bne_iff_ne.mpr c21;obtain rfl:=Option.some.inj H;try go_wp2
              have n0_:=zm (zI BK248.out);have n1_:=zm (zC HB.out);clear BK248;clear HB;have BK248:=n0_;have HB:=n1_;clear n0_ n1_;have p249 : 0 ≤ (x10_1 : Int):=of_decide_eq_true (by first|(with_reducible assumption)|assumption)
              have q249 : x10_1 < (l1.length : Int):=of_decide_eq_true (by first|(with_reducible assumption)|assumption)
              obtain ⟨ad249,e249,hx249_0⟩:=Kd.at_int HR1.out x10_1 p249 q249;have hw249_0:=hx249_0;cases e249;replace hx249_0:=(HB.out.cell (World.block_lt_of_cell? w _ hx249_0)).trans hx249_0;replace p249:=eq_true p249;replace q249:=eq_true q249;have p250 : 0 ≤ (x10_1 : Int):=of_decide_eq_true (by first|(with_reducible assumption)|assumption)
              have q250 : x10_1 < (l1.length : Int):=of_decide_eq_true (by first|(with_reducible assumption)|assumption)
              obtain ⟨ad250,e250,hx250_0⟩:=Kd.at_int HR1.out x10_1 p250 q250;have hw250_0:=hx250_0;obtain rfl : ad249 = ad250:=(by injection e250)
              replace hx250_0:=(HB.out.cell (World.block_lt_of_cell? w _ hx250_0)).trans hx250_0;replace p250:=eq_true p250;replace q250:=eq_true q250;have p251 : 0 ≤ (x10_1 : Int):=of_decide_eq_true (by first|(with_reducible assumption)|assumption)
              have q251 : x10_1 < (l2.length : Int):=of_decide_eq_true (by first|(with_reducible assumption)|assumption)
              obtain ⟨ad251,e251,hx251_0⟩:=Kd.at_int HR2.out x10_1 p251 q251;have hw251_0:=hx251_0;cases e251;replace hx251_0:=(HB.out.cell (World.block_lt_of_cell? w _ hx251_0)).trans hx251_0;replace p251:=eq_true p251;replace q251:=eq_true q251;have p252 : 0 ≤ (x10_1 : Int):=of_decide_eq_true (by first|(with_reducible assumption)|assumption)
              have q252 : x10_1 < (l2.length : Int):=of_decide_eq_true (by first|(with_reducible assumption)|assumption)
              obtain ⟨ad252,e252,hx252_0⟩:=Kd.at_int HR2.out x10_1 p252 q252;have hw252_0:=hx252_0;obtain rfl : ad251 = ad252:=(by injection e252)
              replace hx252_0:=(HB.out.cell (World.block_lt_of_cell? w _ hx252_0)).trans hx252_0;replace p252:=eq_true p252;replace q252:=eq_true q252;have p253 : 0 ≤ (x10_1 : Int):=of_decide_eq_true (by first|(with_reducible assumption)|assumption)
              have q253 : x10_1 < (l1.length : Int):=of_decide_eq_true (by first|(with_reducible assumption)|assumption)
              obtain ⟨ad253,e253,hx253_0⟩:=Kd.at_int HR1.out x10_1 p253 q253;have hw253_0:=hx253_0;obtain rfl : ad249 = ad253:=(by injection e253)
              replace hx253_0:=(HB.out.cell (World.block_lt_of_cell? w _ hx253_0)).trans hx253_0;replace p253:=eq_true p253;replace q253:=eq_true q253;have p255 : 0 ≤ (x10_1 : Int):=of_decide_eq_true (by first|(with_reducible assumption)|assumption)
              have q255 : x10_1 < (l2.length : Int):=of_decide_eq_true (by first|(with_reducible assumption)|assumption)
              obtain ⟨ad255,e255,hx255_0⟩:=Kd.at_int HR2.out x10_1 p255 q255;have hw255_0:=hx255_0;obtain rfl : ad251 = ad255:=(by injection e255)
              replace hx255_0:=(HB.out.cell (World.block_lt_of_cell? w _ hx255_0)).trans hx255_0;replace p255:=eq_true p255;replace q255:=eq_true q255;have p256 : 0 ≤ (x10_1 : Int):=of_decide_eq_true (by first|(with_reducible assumption)|assumption)
              have q256 : x10_1 < (l0_3.length : Int):=of_decide_eq_true (by first|(with_reducible assumption)|assumption)
              obtain ⟨ad256,A256_0,c256_0,e256,hx256_0,hl256_0,hi256_0⟩:=at_L3 HR0_3.out x10_1 p256 q256;have hw256_0:=hx256_0;cases e256;replace hx256_0:=(HB.out.cell (World.block_lt_of_cell? w _ hx256_0)).trans hx256_0;have HR256_0:=zm hi256_0;have HC256_0:=zm hl256_0;clear hi256_0 hl256_0;replace p256:=eq_true p256;replace q256:=eq_true q256;have p257 : 0 ≤ (x10_1 : Int):=of_decide_eq_true (by first|(with_reducible assumption)|assumption)
              have q257 : x10_1 < (l1.length : Int):=of_decide_eq_true (by first|(with_reducible assumption)|assumption)
              obtain ⟨ad257,e257,hx257_0⟩:=Kd.at_int HR1.out x10_1 p257 q257;have hw257_0:=hx257_0;obtain rfl : ad249 = ad257:=(by injection e257)
              replace hx257_0:=(HB.out.cell (World.block_lt_of_cell? w _ hx257_0)).trans hx257_0;replace p257:=eq_true p257;replace q257:=eq_true q257;refine start_ (n:=54) (S:=fun w'=>w'.cell? ⟨gb248,0,none⟩ = some (.slice A0_0 l0_0.length c0_0)∧w'.cell? ⟨gb248,1,none⟩ = some (.slice A0_1 l0_1.length c0_1)∧w'.cell? ⟨gb248,2,none⟩ = some (.slice A0_2 l0_2.length c0_2)∧w'.cell? ⟨gb248,3,none⟩ = some (.slice (some ad256) l0_3.length c0_3)∧w'.cell? (ad249.add (x10_1).toNat) = some (.int .i64 (rd l1 x10_1))∧w'.cell? (ad249.add (x10_1).toNat) = some (.int .i64 (rd l1 x10_1))∧w'.cell? (ad251.add (x10_1).toNat) = some (.int .i64 (rd l2 x10_1))∧w'.cell? (ad251.add (x10_1).toNat) = some (.int .i64 (rd l2 x10_1))∧w'.cell? (ad249.add (x10_1).toNat) = some (.int .i64 (rd l1 x10_1))∧w'.cell? (ad251.add (x10_1).toNat) = some (.int .i64 (rd l2 x10_1))∧w'.cell? (ad256.add (x10_1).toNat) = some (.slice A256_0 (rd_L3 l0_3 x10_1).length c256_0)∧w'.cell? (ad249.add (x10_1).toNat) = some (.int .i64 (rd l1 x10_1))) (ds:=[]) #[n',n',n',n',n',n',n',n',n',n',n',n',n',n',n',n',n',n',n',n',n',n',n',n',n',n',n',n',n',n',n',n',n',n',n',n',n',n',n',n',n',n',n',n',n',n',n',n',n',n',n',n',n',n'] (by kernel_rfl) rfl rfl ⟨(zD BK248.out 0).trans rfl,(zD BK248.out 1).trans rfl,(zD BK248.out 2).trans rfl,(zD BK248.out 3).trans rfl,((HB.out.cell (World.block_lt_of_cell? w _ hw249_0)).trans hw249_0),((HB.out.cell (World.block_lt_of_cell? w _ hw250_0)).trans hw250_0),((HB.out.cell (World.block_lt_of_cell? w _ hw251_0)).trans hw251_0),((HB.out.cell (World.block_lt_of_cell? w _ hw252_0)).trans hw252_0),((HB.out.cell (World.block_lt_of_cell? w _ hw253_0)).trans hw253_0),((HB.out.cell (World.block_lt_of_cell? w _ hw255_0)).trans hw255_0),((HB.out.cell (World.block_lt_of_cell? w _ hw256_0)).trans hw256_0),((HB.out.cell (World.block_lt_of_cell? w _ hw257_0)).trans hw257_0)⟩ (fun hHeld=>?_);refine with_tabW laws_wAgrees.tab4 laws_wAgrees.bits4 (fun HT_ HW_=>?_)
              generalize wr.drew = w24 at BK248 HB HR256_0 hx249_0 hx250_0 hx251_0 hx252_0 hx253_0 hx255_0 hx256_0 hx257_0 hHeld ⊢
              refine pure_ (i:=0) (N:=some 13) (v:=?_) (a':=?_) #[y',n',n',n',n',n',n',n',n',n',n',n',n',n',n',n',n',n',n',n',n',n',n',n',n',n',n',n',n',n',n',n',n',n',n',n',n',n',n',n',n',n',n',n',n',n',n',n',n',n',n',n',n',n'] rfl rfl (any_of HT_.out (by kernel_rfl)) (fun _ _ _ h=>h) (Or.inl ⟨by rfl,?_⟩) ?_ ?_
              rotate_left
              ·intro w'
               go_simp
               with_reducible rfl
              rotate_left
              ·simp only [Act.put,List.setIfInBounds_toArray,List.set_cons_zero,List.set_cons_succ,i64_w,i32_w]
               rfl
              refine pure_ (i:=1) (N:=some 14) (v:=?_) (a':=?_) #[y',y',n',n',n',n',n',n',n',n',n',n',n',n',n',n',n',n',n',n',n',n',n',n',n',n',n',n',n',n',n',n',n',n',n',n',n',n',n',n',n',n',n',n',n',n',n',n',n',n',n',n',n',n'] rfl rfl (any_of HT_.out (by kernel_rfl)) (fun _ _ _ h=>h) (Or.inl ⟨by rfl,?_⟩) ?_ ?_
              rotate_left
              ·intro w'
               go_simp
               with_reducible rfl
              rotate_left
              ·simp only [Act.put,List.setIfInBounds_toArray,List.set_cons_zero,List.set_cons_succ,i64_w,i32_w]
               rfl
              refine pure_ (i:=2) (N:=some 15) (v:=?_) (a':=?_) #[y',y',y',n',n',n',n',n',n',n',n',n',n',n',n',n',n',n',n',n',n',n',n',n',n',n',n',n',n',n',n',n',n',n',n',n',n',n',n',n',n',n',n',n',n',n',n',n',n',n',n',n',n',n'] rfl rfl (any_of HT_.out (by kernel_rfl)) (fun _ _ _ h=>h) (Or.inl ⟨by rfl,?_⟩) ?_ ?_
              rotate_left
              ·intro w'
               go_simp
               with_reducible rfl
              rotate_left
              ·simp only [Act.put,List.setIfInBounds_toArray,List.set_cons_zero,List.set_cons_succ,i64_w,i32_w]
               rfl
              refine take_ (i:=3) (N:=some 16) (v:=?_) (a':=?_) #[y',y',y',y',n',n',n',n',n',n',n',n',n',n',n',n',n',n',n',n',n',n',n',n',n',n',n',n',n',n',n',n',n',n',n',n',n',n',n',n',n',n',n',n',n',n',n',n',n',n',n',n',n',n'] rfl rfl (take_ofW HT_.out HW_.out (by kernel_rfl)) (fun _ _ _ h=>h) (Or.inl ⟨by rfl,?_⟩) hHeld ?_ ?_
              rotate_left
              ·rintro w' ⟨s0,s1,s2,s3,s4,s5,s6,s7,s8,s9,s10,s11⟩
               go_simp
               with_reducible rfl
              rotate_left
              ·simp only [Act.put,List.setIfInBounds_toArray,List.set_cons_zero,List.set_cons_succ,i64_w,i32_w]
               rfl
              refine pure_ (i:=4) (N:=some 17) (v:=?_) (a':=?_) #[y',y',y',y',y',n',n',n',n',n',n',n',n',n',n',n',n',n',n',n',n',n',n',n',n',n',n',n',n',n',n',n',n',n',n',n',n',n',n',n',n',n',n',n',n',n',n',n',n',n',n',n',n',n'] rfl rfl (any_of HT_.out (by kernel_rfl)) (fun _ _ _ h=>h) (Or.inl ⟨by rfl,?_⟩) ?_ ?_
              rotate_left
              ·intro w'
               go_simp
               with_reducible rfl
              rotate_left
              ·simp only [Act.put,List.setIfInBounds_toArray,List.set_cons_zero,List.set_cons_succ,i64_w,i32_w]
               rfl
              refine pure_ (i:=5) (N:=some 18) (v:=?_) (a':=?_) #[y',y',y',y',y',y',n',n',n',n',n',n',n',n',n',n',n',n',n',n',n',n',n',n',n',n',n',n',n',n',n',n',n',n',n',n',n',n',n',n',n',n',n',n',n',n',n',n',n',n',n',n',n',n'] rfl rfl (any_of HT_.out (by kernel_rfl)) (fun _ _ _ h=>h) (Or.inl ⟨by rfl,?_⟩) ?_ ?_
              rotate_left
              ·intro w'
               go_simp
               with_reducible rfl
              rotate_left
              ·simp only [Act.put,List.setIfInBounds_toArray,List.set_cons_zero,List.set_cons_succ,i64_w,i32_w]
               rfl
              refine pure_ (i:=6) (N:=some 19) (v:=?_) (a':=?_) #[y',y',y',y',y',y',y',n',n',n',n',n',n',n',n',n',n',n',n',n',n',n',n',n',n',n',n',n',n',n',n',n',n',n',n',n',n',n',n',n',n',n',n',n',n',n',n',n',n',n',n',n',n',n'] rfl rfl (any_of HT_.out (by kernel_rfl)) (fun _ _ _ h=>h) (Or.inl ⟨by rfl,?_⟩) ?_ ?_
              rotate_left
              ·intro w'
               go_simp
               with_reducible rfl
              rotate_left
              ·simp only [Act.put,List.setIfInBounds_toArray,List.set_cons_zero,List.set_cons_succ,i64_w,i32_w]
               rfl
              refine pure_ (i:=7) (N:=some 20) (v:=?_) (a':=?_) #[y',y',y',y',y',y',y',y',n',n',n',n',n',n',n',n',n',n',n',n',n',n',n',n',n',n',n',n',n',n',n',n',n',n',n',n',n',n',n',n',n',n',n',n',n',n',n',n',n',n',n',n',n',n'] rfl rfl (any_of HT_.out (by kernel_rfl)) (fun _ _ _ h=>h) (Or.inl ⟨by rfl,?_⟩) ?_ ?_
              rotate_left
              ·intro w'
               go_simp
               with_reducible rfl
              rotate_left
              ·simp only [Act.put,List.setIfInBounds_toArray,List.set_cons_zero,List.set_cons_succ,i64_w,i32_w]
               rfl
              refine pure_ (i:=8) (N:=some 21) (v:=?_) (a':=?_) #[y',y',y',y',y',y',y',y',y',n',n',n',n',n',n',n',n',n',n',n',n',n',n',n',n',n',n',n',n',n',n',n',n',n',n',n',n',n',n',n',n',n',n',n',n',n',n',n',n',n',n',n',n',n'] rfl rfl (any_of HT_.out (by kernel_rfl)) (fun _ _ _ h=>h) (Or.inl ⟨by rfl,?_⟩) ?_ ?_
              rotate_left
              ·intro w'
               go_simp
               with_reducible rfl
              rotate_left
              ·simp only [Act.put,List.setIfInBounds_toArray,List.set_cons_zero,List.set_cons_succ,i64_w,i32_w]
               rfl
              refine take_ (i:=9) (N:=some 22) (v:=?_) (a':=?_) #[y',y',y',y',y',y',y',y',y',y',n',n',n',n',n',n',n',n',n',n',n',n',n',n',n',n',n',n',n',n',n',n',n',n',n',n',n',n',n',n',n',n',n',n',n',n',n',n',n',n',n',n',n',n'] rfl rfl (take_ofW HT_.out HW_.out (by kernel_rfl)) (fun _ _ _ h=>h) (Or.inl ⟨by rfl,?_⟩) hHeld ?_ ?_
              rotate_left
              ·rintro w' ⟨s0,s1,s2,s3,s4,s5,s6,s7,s8,s9,s10,s11⟩
               go_simp
               with_reducible rfl
              rotate_left
              ·simp only [Act.put,List.setIfInBounds_toArray,List.set_cons_zero,List.set_cons_succ,i64_w,i32_w]
               rfl
              refine pure_ (i:=10) (N:=some 23) (v:=?_) (a':=?_) #[y',y',y',y',y',y',y',y',y',y',y',n',n',n',n',n',n',n',n',n',n',n',n',n',n',n',n',n',n',n',n',n',n',n',n',n',n',n',n',n',n',n',n',n',n',n',n',n',n',n',n',n',n',n'] rfl rfl (any_of HT_.out (by kernel_rfl)) (fun _ _ _ h=>h) (Or.inl ⟨by rfl,?_⟩) ?_ ?_
              rotate_left
              ·intro w'
               go_simp
               with_reducible rfl
              rotate_left
              ·simp only [Act.put,List.setIfInBounds_toArray,List.set_cons_zero,List.set_cons_succ,i64_w,i32_w]
               rfl
              refine pure_ (i:=11) (N:=some 24) (v:=?_) (a':=?_) #[y',y',y',y',y',y',y',y',y',y',y',y',n',n',n',n',n',n',n',n',n',n',n',n',n',n',n',n',n',n',n',n',n',n',n',n',n',n',n',n',n',n',n',n',n',n',n',n',n',n',n',n',n',n'] rfl rfl (any_of HT_.out (by kernel_rfl)) (fun _ _ _ h=>h) (Or.inl ⟨by rfl,?_⟩) ?_ ?_
              rotate_left
              ·intro w'
               go_simp
               with_reducible rfl
              rotate_left
              ·simp only [Act.put,List.setIfInBounds_toArray,List.set_cons_zero,List.set_cons_succ,i64_w,i32_w]
               rfl
              refine pure_ (i:=12) (N:=some 25) (v:=?_) (a':=?_) #[y',y',y',y',y',y',y',y',y',y',y',y',y',n',n',n',n',n',n',n',n',n',n',n',n',n',n',n',n',n',n',n',n',n',n',n',n',n',n',n',n',n',n',n',n',n',n',n',n',n',n',n',n',n'] rfl rfl (any_of HT_.out (by kernel_rfl)) (fun _ _ _ h=>h) (Or.inl ⟨by rfl,?_⟩) ?_ ?_
              rotate_left
              ·intro w'
               go_simp
               with_reducible rfl
              rotate_left
              ·simp only [Act.put,List.setIfInBounds_toArray,List.set_cons_zero,List.set_cons_succ,i64_w,i32_w]
               rfl
              refine pure_ (i:=13) (N:=some 26) (v:=?_) (a':=?_) #[y',y',y',y',y',y',y',y',y',y',y',y',y',y',n',n',n',n',n',n',n',n',n',n',n',n',n',n',n',n',n',n',n',n',n',n',n',n',n',n',n',n',n',n',n',n',n',n',n',n',n',n',n',n'] rfl rfl (any_of HT_.out (by kernel_rfl)) (fun _ _ _ h=>h) (Or.inl ⟨by rfl,?_⟩) ?_ ?_
              rotate_left
              ·intro w'
               go_simp
               with_reducible rfl
              rotate_left
              ·simp only [Act.put,List.setIfInBounds_toArray,List.set_cons_zero,List.set_cons_succ,i64_w,i32_w]
               rfl
              refine pure_ (i:=14) (N:=some 27) (v:=?_) (a':=?_) #[y',y',y',y',y',y',y',y',y',y',y',y',y',y',y',n',n',n',n',n',n',n',n',n',n',n',n',n',n',n',n',n',n',n',n',n',n',n',n',n',n',n',n',n',n',n',n',n',n',n',n',n',n',n'] rfl rfl (any_of HT_.out (by kernel_rfl)) (fun _ _ _ h=>h) (Or.inl ⟨by rfl,?_⟩) ?_ ?_
              rotate_left
              ·intro w'
               go_simp
               with_reducible rfl
              rotate_left
              ·simp only [Act.put,List.setIfInBounds_toArray,List.set_cons_zero,List.set_cons_succ,i64_w,i32_w]
               rfl
              refine pure_ (i:=15) (N:=some 28) (v:=?_) (a':=?_) #[y',y',y',y',y',y',y',y',y',y',y',y',y',y',y',y',n',n',n',n',n',n',n',n',n',n',n',n',n',n',n',n',n',n',n',n',n',n',n',n',n',n',n',n',n',n',n',n',n',n',n',n',n',n'] rfl rfl (any_of HT_.out (by kernel_rfl)) (fun _ _ _ h=>h) (Or.inl ⟨by rfl,?_⟩) ?_ ?_
              rotate_left
              ·intro w'
               go_simp
               with_reducible rfl
              rotate_left
              ·simp only [Act.put,List.setIfInBounds_toArray,List.set_cons_zero,List.set_cons_succ,i64_w,i32_w]
               rfl
              refine take_ (i:=16) (N:=some 29) (v:=?_) (a':=?_) #[y',y',y',y',y',y',y',y',y',y',y',y',y',y',y',y',y',n',n',n',n',n',n',n',n',n',n',n',n',n',n',n',n',n',n',n',n',n',n',n',n',n',n',n',n',n',n',n',n',n',n',n',n',n'] rfl rfl (take_ofW HT_.out HW_.out (by kernel_rfl)) (fun _ _ _ h=>h) (Or.inl ⟨by rfl,?_⟩) hHeld ?_ ?_
              rotate_left
              ·rintro w' ⟨s0,s1,s2,s3,s4,s5,s6,s7,s8,s9,s10,s11⟩
               go_simp
               with_reducible rfl
              rotate_left
              ·simp only [Act.put,List.setIfInBounds_toArray,List.set_cons_zero,List.set_cons_succ,i64_w,i32_w]
               rfl
              refine pure_ (i:=17) (N:=some 30) (v:=?_) (a':=?_) #[y',y',y',y',y',y',y',y',y',y',y',y',y',y',y',y',y',y',n',n',n',n',n',n',n',n',n',n',n',n',n',n',n',n',n',n',n',n',n',n',n',n',n',n',n',n',n',n',n',n',n',n',n',n'] rfl rfl (any_of HT_.out (by kernel_rfl)) (fun _ _ _ h=>h) (Or.inl ⟨by rfl,?_⟩) ?_ ?_
              rotate_left
              ·intro w'
               go_simp
               with_reducible rfl
              rotate_left
              ·simp only [Act.put,List.setIfInBounds_toArray,List.set_cons_zero,List.set_cons_succ,i64_w,i32_w]
               rfl
              refine pure_ (i:=18) (N:=some 31) (v:=?_) (a':=?_) #[y',y',y',y',y',y',y',y',y',y',y',y',y',y',y',y',y',y',y',n',n',n',n',n',n',n',n',n',n',n',n',n',n',n',n',n',n',n',n',n',n',n',n',n',n',n',n',n',n',n',n',n',n',n'] rfl rfl (any_of HT_.out (by kernel_rfl)) (fun _ _ _ h=>h) (Or.inl ⟨by rfl,?_⟩) ?_ ?_
              rotate_left
              ·intro w'
               go_simp
               with_reducible rfl
              rotate_left
              ·simp only [Act.put,List.setIfInBounds_toArray,List.set_cons_zero,List.set_cons_succ,i64_w,i32_w]
               rfl
              refine pure_ (i:=19) (N:=some 32) (v:=?_) (a':=?_) #[y',y',y',y',y',y',y',y',y',y',y',y',y',y',y',y',y',y',y',y',n',n',n',n',n',n',n',n',n',n',n',n',n',n',n',n',n',n',n',n',n',n',n',n',n',n',n',n',n',n',n',n',n',n'] rfl rfl (any_of HT_.out (by kernel_rfl)) (fun _ _ _ h=>h) (Or.inl ⟨by rfl,?_⟩) ?_ ?_
              rotate_left
              ·intro w'
               go_simp
               with_reducible rfl
              rotate_left
              ·simp only [Act.put,List.setIfInBounds_toArray,List.set_cons_zero,List.set_cons_succ,i64_w,i32_w]
               rfl
              refine pure_ (i:=20) (N:=some 33) (v:=?_) (a':=?_) #[y',y',y',y',y',y',y',y',y',y',y',y',y',y',y',y',y',y',y',y',y',n',n',n',n',n',n',n',n',n',n',n',n',n',n',n',n',n',n',n',n',n',n',n',n',n',n',n',n',n',n',n',n',n'] rfl rfl (any_of HT_.out (by kernel_rfl)) (fun _ _ _ h=>h) (Or.inl ⟨by rfl,?_⟩) ?_ ?_
              rotate_left
              ·intro w'
               go_simp
               with_reducible rfl
              rotate_left
              ·simp only [Act.put,List.setIfInBounds_toArray,List.set_cons_zero,List.set_cons_succ,i64_w,i32_w]
               rfl
              refine pure_ (i:=21) (N:=some 34) (v:=?_) (a':=?_) #[y',y',y',y',y',y',y',y',y',y',y',y',y',y',y',y',y',y',y',y',y',y',n',n',n',n',n',n',n',n',n',n',n',n',n',n',n',n',n',n',n',n',n',n',n',n',n',n',n',n',n',n',n',n'] rfl rfl (any_of HT_.out (by kernel_rfl)) (fun _ _ _ h=>h) (Or.inl ⟨by rfl,?_⟩) ?_ ?_
              rotate_left
              ·intro w'
               go_simp
               with_reducible rfl
              rotate_left
              ·simp only [Act.put,List.setIfInBounds_toArray,List.set_cons_zero,List.set_cons_succ,i64_w,i32_w]
               rfl
              refine pure_ (i:=22) (N:=some 35) (v:=?_) (a':=?_) #[y',y',y',y',y',y',y',y',y',y',y',y',y',y',y',y',y',y',y',y',y',y',y',n',n',n',n',n',n',n',n',n',n',n',n',n',n',n',n',n',n',n',n',n',n',n',n',n',n',n',n',n',n',n'] rfl rfl (any_of HT_.out (by kernel_rfl)) (fun _ _ _ h=>h) (Or.inl ⟨by rfl,?_⟩) ?_ ?_
              rotate_left
              ·intro w'
               go_simp
               with_reducible rfl
              rotate_left
              ·simp only [Act.put,List.setIfInBounds_toArray,List.set_cons_zero,List.set_cons_succ,i64_w,i32_w]
               rfl
              refine take_ (i:=23) (N:=some 36) (v:=?_) (a':=?_) #[y',y',y',y',y',y',y',y',y',y',y',y',y',y',y',y',y',y',y',y',y',y',y',y',n',n',n',n',n',n',n',n',n',n',n',n',n',n',n',n',n',n',n',n',n',n',n',n',n',n',n',n',n',n'] rfl rfl (take_ofW HT_.out HW_.out (by kernel_rfl)) (fun _ _ _ h=>h) (Or.inl ⟨by rfl,?_⟩) hHeld ?_ ?_
              rotate_left
              ·rintro w' ⟨s0,s1,s2,s3,s4,s5,s6,s7,s8,s9,s10,s11⟩
               go_simp
               with_reducible rfl
              rotate_left
              ·simp only [Act.put,List.setIfInBounds_toArray,List.set_cons_zero,List.set_cons_succ,i64_w,i32_w]
               rfl
              refine pure_ (i:=24) (N:=some 37) (v:=?_) (a':=?_) #[y',y',y',y',y',y',y',y',y',y',y',y',y',y',y',y',y',y',y',y',y',y',y',y',y',n',n',n',n',n',n',n',n',n',n',n',n',n',n',n',n',n',n',n',n',n',n',n',n',n',n',n',n',n'] rfl rfl (any_of HT_.out (by kernel_rfl)) (fun _ _ _ h=>h) (Or.inl ⟨by rfl,?_⟩) ?_ ?_
              rotate_left
              ·intro w'
               go_simp
               with_reducible rfl
              rotate_left
              ·simp only [Act.put,List.setIfInBounds_toArray,List.set_cons_zero,List.set_cons_succ,i64_w,i32_w]
               rfl
              refine pure_ (i:=25) (N:=some 38) (v:=?_) (a':=?_) #[y',y',y',y',y',y',y',y',y',y',y',y',y',y',y',y',y',y',y',y',y',y',y',y',y',y',n',n',n',n',n',n',n',n',n',n',n',n',n',n',n',n',n',n',n',n',n',n',n',n',n',n',n',n'] rfl rfl (any_of HT_.out (by kernel_rfl)) (fun _ _ _ h=>h) (Or.inl ⟨by rfl,?_⟩) ?_ ?_
              rotate_left
              ·intro w'
               go_simp
               with_reducible rfl
              rotate_left
              ·simp only [Act.put,List.setIfInBounds_toArray,List.set_cons_zero,List.set_cons_succ,i64_w,i32_w]
               rfl
              refine pure_ (i:=26) (N:=some 39) (v:=?_) (a':=?_) #[y',y',y',y',y',y',y',y',y',y',y',y',y',y',y',y',y',y',y',y',y',y',y',y',y',y',y',n',n',n',n',n',n',n',n',n',n',n',n',n',n',n',n',n',n',n',n',n',n',n',n',n',n',n'] rfl rfl (any_of HT_.out (by kernel_rfl)) (fun _ _ _ h=>h) (Or.inl ⟨by rfl,?_⟩) ?_ ?_
              rotate_left
              ·intro w'
               go_simp
               with_reducible rfl
              rotate_left
              ·simp only [Act.put,List.setIfInBounds_toArray,List.set_cons_zero,List.set_cons_succ,i64_w,i32_w]
               rfl
              refine pure_ (i:=27) (N:=some 40) (v:=?_) (a':=?_) #[y',y',y',y',y',y',y',y',y',y',y',y',y',y',y',y',y',y',y',y',y',y',y',y',y',y',y',y',n',n',n',n',n',n',n',n',n',n',n',n',n',n',n',n',n',n',n',n',n',n',n',n',n',n'] rfl rfl (any_of HT_.out (by kernel_rfl)) (fun _ _ _ h=>h) (Or.inl ⟨by rfl,?_⟩) ?_ ?_
              rotate_left
              ·intro w'
               go_simp
               with_reducible rfl
              rotate_left
              ·simp only [Act.put,List.setIfInBounds_toArray,List.set_cons_zero,List.set_cons_succ,i64_w,i32_w]
               rfl
              refine pure_ (i:=28) (N:=some 41) (v:=?_) (a':=?_) #[y',y',y',y',y',y',y',y',y',y',y',y',y',y',y',y',y',y',y',y',y',y',y',y',y',y',y',y',y',n',n',n',n',n',n',n',n',n',n',n',n',n',n',n',n',n',n',n',n',n',n',n',n',n'] rfl rfl (any_of HT_.out (by kernel_rfl)) (fun _ _ _ h=>h) (Or.inl ⟨by rfl,?_⟩) ?_ ?_
              rotate_left
              ·intro w'
               go_simp
               with_reducible rfl
              rotate_left
              ·simp only [Act.put,List.setIfInBounds_toArray,List.set_cons_zero,List.set_cons_succ,i64_w,i32_w]
               rfl
              refine pure_ (i:=29) (N:=some 42) (v:=?_) (a':=?_) #[y',y',y',y',y',y',y',y',y',y',y',y',y',y',y',y',y',y',y',y',y',y',y',y',y',y',y',y',y',y',n',n',n',n',n',n',n',n',n',n',n',n',n',n',n',n',n',n',n',n',n',n',n',n'] rfl rfl (any_of HT_.out (by kernel_rfl)) (fun _ _ _ h=>h) (Or.inl ⟨by rfl,?_⟩) ?_ ?_
              rotate_left
              ·intro w'
               go_simp
               with_reducible rfl
              rotate_left
              ·simp only [Act.put,List.setIfInBounds_toArray,List.set_cons_zero,List.set_cons_succ,i64_w,i32_w]
               rfl
              refine pure_ (i:=32) (N:=some 45) (v:=?_) (a':=?_) #[y',y',y',y',y',y',y',y',y',y',y',y',y',y',y',y',y',y',y',y',y',y',y',y',y',y',y',y',y',y',n',n',y',n',n',n',n',n',n',n',n',n',n',n',n',n',n',n',n',n',n',n',n',n'] rfl rfl (any_of HT_.out (by kernel_rfl)) (fun _ _ _ h=>h) (Or.inl ⟨by rfl,?_⟩) ?_ ?_
              rotate_left
              ·intro w'
               go_simp
               with_reducible rfl
              rotate_left
              ·simp only [Act.put,List.setIfInBounds_toArray,List.set_cons_zero,List.set_cons_succ,i64_w,i32_w]
               rfl
              refine pure_ (i:=33) (N:=some 46) (v:=?_) (a':=?_) #[y',y',y',y',y',y',y',y',y',y',y',y',y',y',y',y',y',y',y',y',y',y',y',y',y',y',y',y',y',y',n',n',y',y',n',n',n',n',n',n',n',n',n',n',n',n',n',n',n',n',n',n',n',n'] rfl rfl (any_of HT_.out (by kernel_rfl)) (fun _ _ _ h=>h) (Or.inl ⟨by rfl,?_⟩) ?_ ?_
              rotate_left
              ·intro w'
               go_simp
               with_reducible rfl
              rotate_left
              ·simp only [Act.put,List.setIfInBounds_toArray,List.set_cons_zero,List.set_cons_succ,i64_w,i32_w]
               rfl
              refine take_ (i:=30) (N:=some 43) (v:=?_) (a':=?_) #[y',y',y',y',y',y',y',y',y',y',y',y',y',y',y',y',y',y',y',y',y',y',y',y',y',y',y',y',y',y',y',n',y',y',n',n',n',n',n',n',n',n',n',n',n',n',n',n',n',n',n',n',n',n'] rfl rfl (take_ofW HT_.out HW_.out (by kernel_rfl)) (fun _ _ _ h=>h) (Or.inl ⟨by rfl,?_⟩) hHeld ?_ ?_
              rotate_left
              ·rintro w' ⟨s0,s1,s2,s3,s4,s5,s6,s7,s8,s9,s10,s11⟩
               go_simp
               with_reducible rfl
              rotate_left
              ·simp only [Act.put,List.setIfInBounds_toArray,List.set_cons_zero,List.set_cons_succ,i64_w,i32_w]
               rfl
              refine take_ (i:=31) (N:=some 44) (v:=?_) (a':=?_) #[y',y',y',y',y',y',y',y',y',y',y',y',y',y',y',y',y',y',y',y',y',y',y',y',y',y',y',y',y',y',y',y',y',y',n',n',n',n',n',n',n',n',n',n',n',n',n',n',n',n',n',n',n',n'] rfl rfl (take_ofW HT_.out HW_.out (by kernel_rfl)) (fun _ _ _ h=>h) (Or.inl ⟨by rfl,?_⟩) hHeld ?_ ?_
              rotate_left
              ·rintro w' ⟨s0,s1,s2,s3,s4,s5,s6,s7,s8,s9,s10,s11⟩
               go_simp
               with_reducible rfl
              rotate_left
              ·simp only [Act.put,List.setIfInBounds_toArray,List.set_cons_zero,List.set_cons_succ,i64_w,i32_w]
               rfl
              refine one_ (i:=34) (N:=some 47) #[y',y',y',y',y',y',y',y',y',y',y',y',y',y',y',y',y',y',y',y',y',y',y',y',y',y',y',y',y',y',y',y',y',y',y',n',n',n',n',n',n',n',n',n',n',n',n',n',n',n',n',n',n',n'] rfl rfl (one_of HT_.out (by kernel_rfl)) (by decide) (fun K hK=>?_)
              refine goes_ Try.func21 (by kernel_rfl) rfl #[.agg #[.slice A0_0 l0_0.length c0_0,.slice A0_1 l0_1.length c0_1,.slice A0_2 l0_2.length c0_2,.slice (some ad256) l0_3.length c0_3],.slice (some ad251) l2.length c2,.int .i64 x10_1] (by rfl) rfl rfl (by (try simp only [List.map_toArray,List.map_cons,List.map_nil]);first|done|rfl|(simp only [List.length_drop,List.length_take];rfl)) ?_
              with_reducible refine (laws_wWant.calls _ _ l0_0 _ _ l0_1 _ _ l0_2 _ _ l0_3 _ _ l2 x10_1 t254 _ ?side1 ?side2 ?side3 ?side4 ?side5 ?side6 ?side7 ?side8 ?side9 ?side10 A17.out).mono ?_
              (case side1=>repeat (first|exact (zY HR0_0.out HB.out)|(with_reducible refine zT ?_ _)|(with_reducible refine zU ?_ _)|(with_reducible refine zV ?_)))
              (case side2=>exact HC0_0.out)
              (case side3=>repeat (first|exact (zY HR0_1.out HB.out)|(with_reducible refine zT ?_ _)|(with_reducible refine zU ?_ _)|(with_reducible refine zV ?_)))
              (case side4=>exact HC0_1.out)
              (case side5=>repeat (first|exact (zY HR0_2.out HB.out)|(with_reducible refine zT ?_ _)|(with_reducible refine zU ?_ _)|(with_reducible refine zV ?_)))
              (case side6=>exact HC0_2.out)
              (case side7=>repeat (first|exact (zY HR0_3.out HB.out)|(with_reducible refine zT ?_ _)|(with_reducible refine zU ?_ _)|(with_reducible refine zV ?_)))
              (case side8=>exact HC0_3.out)
              (case side9=>repeat (first|exact (zY HR2.out HB.out)|(with_reducible refine zT ?_ _)|(with_reducible refine zU ?_ _)|(with_reducible refine zV ?_)))
              (case side10=>exact HC2.out)
              rintro e w25 ⟨rfl,hb⟩
              refine ⟨_,rfl,?_⟩
              have n0_:=zm (zL (g:=gb248) (o:=.cells #[.slice A0_0 l0_0.length c0_0,.slice A0_1 l0_1.length c0_1,.slice A0_2 l0_2.length c0_2,.slice (some ad256) l0_3.length c0_3] 27 (0,0)) (by (with_reducible repeat (first|refine zH ?_ _|refine zI ?_|refine zG ?_ _));exact BK248.out) hb)
              have n1_:=zm (zK (by repeat (first|(with_reducible first|exact HB.out|apply zA|apply zB|apply zC|refine zF ?_ GE248.out)|exact HB.out)) hb)
              clear BK248;clear HB;have BK248:=n0_;have HB:=n1_;clear n0_ n1_;(try clear hb);(try clear hb2);(try clear hk);(try clear hi);refine hK.out _ _ ⟨(zD BK248.out 0).trans rfl,(zD BK248.out 1).trans rfl,(zD BK248.out 2).trans rfl,(zD BK248.out 3).trans rfl,((HB.out.cell (World.block_lt_of_cell? w _ hw249_0)).trans hw249_0),((HB.out.cell (World.block_lt_of_cell? w _ hw250_0)).trans hw250_0),((HB.out.cell (World.block_lt_of_cell? w _ hw251_0)).trans hw251_0),((HB.out.cell (World.block_lt_of_cell? w _ hw252_0)).trans hw252_0),((HB.out.cell (World.block_lt_of_cell? w _ hw253_0)).trans hw253_0),((HB.out.cell (World.block_lt_of_cell? w _ hw255_0)).trans hw255_0),((HB.out.cell (World.block_lt_of_cell? w _ hw256_0)).trans hw256_0),((HB.out.cell (World.block_lt_of_cell? w _ hw257_0)).trans hw257_0)⟩ (fun hHeld=>?_)
              clear hK K;refine norm_ (a':=?_) ?_ ?_
              rotate_left
              ·show Act.put _ (some 47) _ = _
               simp only [Act.put,List.setIfInBounds_toArray,List.set_cons_zero,List.set_cons_succ,i64_w,i32_w]
               rfl
              refine pure_ (i:=35) (N:=some 48) (v:=?_) (a':=?_) #[y',y',y',y',y',y',y',y',y',y',y',y',y',y',y',y',y',y',y',y',y',y',y',y',y',y',y',y',y',y',y',y',y',y',y',y',n',n',n',n',n',n',n',n',n',n',n',n',n',n',n',n',n',n'] rfl rfl (any_of HT_.out (by kernel_rfl)) (fun _ _ _ h=>h) (Or.inl ⟨by rfl,?_⟩) ?_ ?_
              rotate_left
              ·intro w'
               go_simp
               with_reducible rfl
              rotate_left
              ·simp only [Act.put,List.setIfInBounds_toArray,List.set_cons_zero,List.set_cons_succ,i64_w,i32_w]
               rfl
              refine pure_ (i:=36) (N:=some 49) (v:=?_) (a':=?_) #[y',y',y',y',y',y',y',y',y',y',y',y',y',y',y',y',y',y',y',y',y',y',y',y',y',y',y',y',y',y',y',y',y',y',y',y',y',n',n',n',n',n',n',n',n',n',n',n',n',n',n',n',n',n'] rfl rfl (any_of HT_.out (by kernel_rfl)) (fun _ _ _ h=>h) (Or.inl ⟨by rfl,?_⟩) ?_ ?_
              rotate_left
              ·intro w'
               go_simp
               with_reducible rfl
              rotate_left
              ·simp only [Act.put,List.setIfInBounds_toArray,List.set_cons_zero,List.set_cons_succ,i64_w,i32_w]
               rfl
              refine pure_ (i:=37) (N:=some 50) (v:=?_) (a':=?_) #[y',y',y',y',y',y',y',y',y',y',y',y',y',y',y',y',y',y',y',y',y',y',y',y',y',y',y',y',y',y',y',y',y',y',y',y',y',y',n',n',n',n',n',n',n',n',n',n',n',n',n',n',n',n'] rfl rfl (any_of HT_.out (by kernel_rfl)) (fun _ _ _ h=>h) (Or.inl ⟨by rfl,?_⟩) ?_ ?_
              rotate_left
              ·intro w'
               go_simp
               with_reducible rfl
              rotate_left
              ·simp only [Act.put,List.setIfInBounds_toArray,List.set_cons_zero,List.set_cons_succ,i64_w,i32_w]
               rfl
              refine pure_ (i:=38) (N:=some 51) (v:=?_) (a':=?_) #[y',y',y',y',y',y',y',y',y',y',y',y',y',y',y',y',y',y',y',y',y',y',y',y',y',y',y',y',y',y',y',y',y',y',y',y',y',y',y',n',n',n',n',n',n',n',n',n',n',n',n',n',n',n'] rfl rfl (any_of HT_.out (by kernel_rfl)) (fun _ _ _ h=>h) (Or.inl ⟨by rfl,?_⟩) ?_ ?_
              rotate_left
              ·intro w'
               go_simp
               with_reducible rfl
              rotate_left
              ·simp only [Act.put,List.setIfInBounds_toArray,List.set_cons_zero,List.set_cons_succ,i64_w,i32_w]
               rfl
              refine pure_ (i:=39) (N:=some 52) (v:=?_) (a':=?_) #[y',y',y',y',y',y',y',y',y',y',y',y',y',y',y',y',y',y',y',y',y',y',y',y',y',y',y',y',y',y',y',y',y',y',y',y',y',y',y',y',n',n',n',n',n',n',n',n',n',n',n',n',n',n'] rfl rfl (any_of HT_.out (by kernel_rfl)) (fun _ _ _ h=>h) (Or.inl ⟨by rfl,?_⟩) ?_ ?_
              rotate_left
              ·intro w'
               go_simp
               with_reducible rfl
              rotate_left
              ·simp only [Act.put,List.setIfInBounds_toArray,List.set_cons_zero,List.set_cons_succ,i64_w,i32_w]
               rfl
              refine pure_ (i:=40) (N:=some 53) (v:=?_) (a':=?_) #[y',y',y',y',y',y',y',y',y',y',y',y',y',y',y',y',y',y',y',y',y',y',y',y',y',y',y',y',y',y',y',y',y',y',y',y',y',y',y',y',y',n',n',n',n',n',n',n',n',n',n',n',n',n'] rfl rfl (any_of HT_.out (by kernel_rfl)) (fun _ _ _ h=>h) (Or.inl ⟨by rfl,?_⟩) ?_ ?_
              rotate_left
              ·intro w'
               go_simp
               with_reducible rfl
              rotate_left
              ·simp only [Act.put,List.setIfInBounds_toArray,List.set_cons_zero,List.set_cons_succ,i64_w,i32_w]
               rfl
              refine pure_ (i:=42) (N:=some 55) (v:=?_) (a':=?_) #[y',y',y',y',y',y',y',y',y',y',y',y',y',y',y',y',y',y',y',y',y',y',y',y',y',y',y',y',y',y',y',y',y',y',y',y',y',y',y',y',y',n',y',n',n',n',n',n',n',n',n',n',n',n'] rfl rfl (any_of HT_.out (by kernel_rfl)) (fun _ _ _ h=>h) (Or.inl ⟨by rfl,?_⟩) ?_ ?_
              rotate_left
              ·intro w'
               go_simp
               with_reducible rfl
              rotate_left
              ·simp only [Act.put,List.setIfInBounds_toArray,List.set_cons_zero,List.set_cons_succ,i64_w,i32_w]
               rfl
              refine pure_ (i:=44) (N:=some 57) (v:=?_) (a':=?_) #[y',y',y',y',y',y',y',y',y',y',y',y',y',y',y',y',y',y',y',y',y',y',y',y',y',y',y',y',y',y',y',y',y',y',y',y',y',y',y',y',y',n',y',n',y',n',n',n',n',n',n',n',n',n'] rfl rfl (any_of HT_.out (by kernel_rfl)) (fun _ _ _ h=>h) (Or.inl ⟨by rfl,?_⟩) ?_ ?_
              rotate_left
              ·intro w'
               go_simp
               with_reducible rfl
              rotate_left
              ·simp only [Act.put,List.setIfInBounds_toArray,List.set_cons_zero,List.set_cons_succ,i64_w,i32_w]
               rfl
              refine pure_ (i:=47) (N:=some 60) (v:=?_) (a':=?_) #[y',y',y',y',y',y',y',y',y',y',y',y',y',y',y',y',y',y',y',y',y',y',y',y',y',y',y',y',y',y',y',y',y',y',y',y',y',y',y',y',y',n',y',n',y',n',n',y',n',n',n',n',n',n'] rfl rfl (any_of HT_.out (by kernel_rfl)) (fun _ _ _ h=>h) (Or.inl ⟨by rfl,?_⟩) ?_ ?_
              rotate_left
              ·intro w'
               go_simp
               with_reducible rfl
              rotate_left
              ·simp only [Act.put,List.setIfInBounds_toArray,List.set_cons_zero,List.set_cons_succ,i64_w,i32_w]
               rfl
              refine pure_ (i:=48) (N:=some 61) (v:=?_) (a':=?_) #[y',y',y',y',y',y',y',y',y',y',y',y',y',y',y',y',y',y',y',y',y',y',y',y',y',y',y',y',y',y',y',y',y',y',y',y',y',y',y',y',y',n',y',n',y',n',n',y',y',n',n',n',n',n'] rfl rfl (any_of HT_.out (by kernel_rfl)) (fun _ _ _ h=>h) (Or.inl ⟨by rfl,?_⟩) ?_ ?_
              rotate_left
              ·intro w'
               go_simp
               with_reducible rfl
              rotate_left
              ·simp only [Act.put,List.setIfInBounds_toArray,List.set_cons_zero,List.set_cons_succ,i64_w,i32_w]
               rfl
              refine pure_ (i:=49) (N:=some 62) (v:=?_) (a':=?_) #[y',y',y',y',y',y',y',y',y',y',y',y',y',y',y',y',y',y',y',y',y',y',y',y',y',y',y',y',y',y',y',y',y',y',y',y',y',y',y',y',y',n',y',n',y',n',n',y',y',y',n',n',n',n'] rfl rfl (any_of HT_.out (by kernel_rfl)) (fun _ _ _ h=>h) (Or.inl ⟨by rfl,?_⟩) ?_ ?_
              rotate_left
              ·intro w'
               go_simp
               with_reducible rfl
              rotate_left
              ·simp only [Act.put,List.setIfInBounds_toArray,List.set_cons_zero,List.set_cons_succ,i64_w,i32_w]
               rfl
              refine take_ (i:=41) (N:=some 54) (v:=?_) (a':=?_) #[y',y',y',y',y',y',y',y',y',y',y',y',y',y',y',y',y',y',y',y',y',y',y',y',y',y',y',y',y',y',y',y',y',y',y',y',y',y',y',y',y',y',y',n',y',n',n',y',y',y',n',n',n',n'] rfl rfl (take_ofW HT_.out HW_.out (by kernel_rfl)) (fun _ _ _ h=>h) (Or.inl ⟨by rfl,?_⟩) hHeld ?_ ?_
              rotate_left
              ·rintro w' ⟨s0,s1,s2,s3,s4,s5,s6,s7,s8,s9,s10,s11⟩
               go_simp
               with_reducible rfl
              rotate_left
              ·simp only [Act.put,List.setIfInBounds_toArray,List.set_cons_zero,List.set_cons_succ,i64_w,i32_w]
               rfl
              refine take_ (i:=43) (N:=some 56) (v:=?_) (a':=?_) #[y',y',y',y',y',y',y',y',y',y',y',y',y',y',y',y',y',y',y',y',y',y',y',y',y',y',y',y',y',y',y',y',y',y',y',y',y',y',y',y',y',y',y',y',y',n',n',y',y',y',n',n',n',n'] rfl rfl (take_ofW HT_.out HW_.out (by kernel_rfl)) (fun _ _ _ h=>h) (Or.inl ⟨by rfl,?_⟩) hHeld ?_ ?_
              rotate_left
              ·rintro w' ⟨s0,s1,s2,s3,s4,s5,s6,s7,s8,s9,s10,s11⟩
               go_simp
               with_reducible rfl
              rotate_left
              ·simp only [Act.put,List.setIfInBounds_toArray,List.set_cons_zero,List.set_cons_succ,i64_w,i32_w]
               rfl
              refine pure_ (i:=45) (N:=some 58) (v:=?_) (a':=?_) #[y',y',y',y',y',y',y',y',y',y',y',y',y',y',y',y',y',y',y',y',y',y',y',y',y',y',y',y',y',y',y',y',y',y',y',y',y',y',y',y',y',y',y',y',y',y',n',y',y',y',n',n',n',n'] rfl rfl (any_of HT_.out (by kernel_rfl)) (fun _ _ _ h=>h) (Or.inl ⟨by rfl,?_⟩) ?_ ?_
              rotate_left
              ·intro w'
               go_simp
               with_reducible rfl
              rotate_left
              ·simp only [Act.put,List.setIfInBounds_toArray,List.set_cons_zero,List.set_cons_succ,i64_w,i32_w]
               rfl
              refine take_ (i:=46) (N:=some 59) (v:=?_) (a':=?_) #[y',y',y',y',y',y',y',y',y',y',y',y',y',y',y',y',y',y',y',y',y',y',y',y',y',y',y',y',y',y',y',y',y',y',y',y',y',y',y',y',y',y',y',y',y',y',y',y',y',y',n',n',n',n'] rfl rfl (take_ofW HT_.out HW_.out (by kernel_rfl)) (fun _ _ _ h=>h) (Or.inl ⟨by rfl,?_⟩) hHeld ?_ ?_
              rotate_left
              ·rintro w' ⟨s0,s1,s2,s3,s4,s5,s6,s7,s8,s9,s10,s11⟩
               go_simp
               with_reducible rfl
              rotate_left
              ·simp only [Act.put,List.setIfInBounds_toArray,List.set_cons_zero,List.set_cons_succ,i64_w,i32_w]
               rfl
              refine take_ (i:=50) (N:=some 63) (v:=?_) (a':=?_) #[y',y',y',y',y',y',y',y',y',y',y',y',y',y',y',y',y',y',y',y',y',y',y',y',y',y',y',y',y',y',y',y',y',y',y',y',y',y',y',y',y',y',y',y',y',y',y',y',y',y',y',n',n',n'] rfl rfl (take_ofW HT_.out HW_.out (by kernel_rfl)) (fun _ _ _ h=>h) (Or.inl ⟨by rfl,?_⟩) hHeld ?_ ?_
              rotate_left
              ·rintro w' ⟨s0,s1,s2,s3,s4,s5,s6,s7,s8,s9,s10,s11⟩
               go_simp
               with_reducible rfl
              rotate_left
              ·simp only [Act.put,List.setIfInBounds_toArray,List.set_cons_zero,List.set_cons_succ,i64_w,i32_w]
               rfl
              refine one_ (i:=51) (N:=some 64) #[y',y',y',y',y',y',y',y',y',y',y',y',y',y',y',y',y',y',y',y',y',y',y',y',y',y',y',y',y',y',y',y',y',y',y',y',y',y',y',y',y',y',y',y',y',y',y',y',y',y',y',y',n',n'] rfl rfl (one_of HT_.out (by kernel_rfl)) (by decide) (fun K hK=>?_)
              refine goes_ Try.func20 (by kernel_rfl) rfl #[.slice A256_0 (rd_L3 l0_3 x10_1).length c256_0,.int .i64 (rd l1 x10_1)] (by rfl) rfl rfl (by (try simp only [List.map_toArray,List.map_cons,List.map_nil]);first|done|rfl|(simp only [List.length_drop,List.length_take];rfl)) ?_
              with_reducible refine (laws_wLamp.calls k1 _ _ (rd_L3 l0_3 x10_1) (rd l1 x10_1) t258 _ ?side1 ?side2 A20.out).mono ?_
              (case side1=>repeat (first|exact (zY HR256_0.out HB.out)|(with_reducible refine zT ?_ _)|(with_reducible refine zU ?_ _)|(with_reducible refine zV ?_)))
              (case side2=>exact HC256_0.out)
              rintro e w' ⟨rfl,⟨nd,rfl⟩⟩
              refine ⟨_,rfl,?_⟩
              refine hK.out _ _ ⟨(zD BK248.out 0).trans rfl,(zD BK248.out 1).trans rfl,(zD BK248.out 2).trans rfl,(zD BK248.out 3).trans rfl,((HB.out.cell (World.block_lt_of_cell? w _ hw249_0)).trans hw249_0),((HB.out.cell (World.block_lt_of_cell? w _ hw250_0)).trans hw250_0),((HB.out.cell (World.block_lt_of_cell? w _ hw251_0)).trans hw251_0),((HB.out.cell (World.block_lt_of_cell? w _ hw252_0)).trans hw252_0),((HB.out.cell (World.block_lt_of_cell? w _ hw253_0)).trans hw253_0),((HB.out.cell (World.block_lt_of_cell? w _ hw255_0)).trans hw255_0),((HB.out.cell (World.block_lt_of_cell? w _ hw256_0)).trans hw256_0),((HB.out.cell (World.block_lt_of_cell? w _ hw257_0)).trans hw257_0)⟩ (fun hHeld=>?_)
              clear hK K;refine norm_ (a':=?_) ?_ ?_
              rotate_left
              ·show Act.put _ (some 64) _ = _
               simp only [Act.put,List.setIfInBounds_toArray,List.set_cons_zero,List.set_cons_succ,i64_w,i32_w]
               rfl
              refine pure_ (i:=52) (N:=some 65) (v:=?_) (a':=?_) #[y',y',y',y',y',y',y',y',y',y',y',y',y',y',y',y',y',y',y',y',y',y',y',y',y',y',y',y',y',y',y',y',y',y',y',y',y',y',y',y',y',y',y',y',y',y',y',y',y',y',y',y',y',n'] rfl rfl (any_of HT_.out (by kernel_rfl)) (fun _ _ _ h=>h) (Or.inl ⟨by rfl,?_⟩) ?_ ?_
              rotate_left
              ·intro w'
               go_simp
               with_reducible rfl
              rotate_left
              ·simp only [Act.put,List.setIfInBounds_toArray,List.set_cons_zero,List.set_cons_succ,i64_w,i32_w]
               rfl
              refine pure_ (i:=53) (N:=some 66) (v:=?_) (a':=?_) #[y',y',y',y',y',y',y',y',y',y',y',y',y',y',y',y',y',y',y',y',y',y',y',y',y',y',y',y',y',y',y',y',y',y',y',y',y',y',y',y',y',y',y',y',y',y',y',y',y',y',y',y',y',y'] rfl rfl (any_of HT_.out (by kernel_rfl)) (fun _ _ _ h=>h) (Or.inl ⟨by rfl,?_⟩) ?_ ?_
              rotate_left
              ·intro w'
               go_simp
               with_reducible rfl
              rotate_left
              ·simp only [Act.put,List.setIfInBounds_toArray,List.set_cons_zero,List.set_cons_succ,i64_w,i32_w]
               rfl
              refine done_ (done_of HT_.out (by kernel_rfl)) ?_
              try go_wp2
              go_ret
              exact ⟨by first|rfl|(simp [errW_none,errW_some] <;> rfl)|(simp [*,errW_none,errW_some] <;> rfl),by repeat (first|(with_reducible first|exact HB.out|apply zA|apply zB|apply zC|refine zF ?_ GE248.out)|exact HB.out)⟩
            ·rw [if_neg c19] at H;exact absurd H (by simp)
           ·rw [if_neg c18] at H;have c18b0 : ((rd l1 x10_1) == t254) = false:=beq_eq_false_iff_ne.mpr c18;have c18b1 : ((rd l1 x10_1) != t254) = true:=bne_iff_ne.mpr c18;obtain rfl:=Option.some.inj H;try go_wp2
            have n0_:=zm (zI BK248.out);have n1_:=zm (zC HB.out);clear BK248;clear HB;have BK248:=n0_;have HB:=n1_;clear n0_ n1_;have p249 : 0 ≤ (x10_1 : Int):=of_decide_eq_true (by first|(with_reducible assumption)|assumption)
            have q249 : x10_1 < (l1.length : Int):=of_decide_eq_true (by first|(with_reducible assumption)|assumption)
            obtain ⟨ad249,e249,hx249_0⟩:=Kd.at_int HR1.out x10_1 p249 q249;have hw249_0:=hx249_0;cases e249;replace hx249_0:=(HB.out.cell (World.block_lt_of_cell? w _ hx249_0)).trans hx249_0;replace p249:=eq_true p249;replace q249:=eq_true q249;have p250 : 0 ≤ (x10_1 : Int):=of_decide_eq_true (by first|(with_reducible assumption)|assumption)
            have q250 : x10_1 < (l1.length : Int):=of_decide_eq_true (by first|(with_reducible assumption)|assumption)
            obtain ⟨ad250,e250,hx250_0⟩:=Kd.at_int HR1.out x10_1 p250 q250;have hw250_0:=hx250_0;obtain rfl : ad249 = ad250:=(by injection e250)
            replace hx250_0:=(HB.out.cell (World.block_lt_of_cell? w _ hx250_0)).trans hx250_0;replace p250:=eq_true p250;replace q250:=eq_true q250;have p251 : 0 ≤ (x10_1 : Int):=of_decide_eq_true (by first|(with_reducible assumption)|assumption)
            have q251 : x10_1 < (l2.length : Int):=of_decide_eq_true (by first|(with_reducible assumption)|assumption)
            obtain ⟨ad251,e251,hx251_0⟩:=Kd.at_int HR2.out x10_1 p251 q251;have hw251_0:=hx251_0;cases e251;replace hx251_0:=(HB.out.cell (World.block_lt_of_cell? w _ hx251_0)).trans hx251_0;replace p251:=eq_true p251;replace q251:=eq_true q251;have p252 : 0 ≤ (x10_1 : Int):=of_decide_eq_true (by first|(with_reducible assumption)|assumption)
            have q252 : x10_1 < (l2.length : Int):=of_decide_eq_true (by first|(with_reducible assumption)|assumption)
            obtain ⟨ad252,e252,hx252_0⟩:=Kd.at_int HR2.out x10_1 p252 q252;have hw252_0:=hx252_0;obtain rfl : ad251 = ad252:=(by injection e252)
            replace hx252_0:=(HB.out.cell (World.block_lt_of_cell? w _ hx252_0)).trans hx252_0;replace p252:=eq_true p252;replace q252:=eq_true q252;have p253 : 0 ≤ (x10_1 : Int):=of_decide_eq_true (by first|(with_reducible assumption)|assumption)
            have q253 : x10_1 < (l1.length : Int):=of_decide_eq_true (by first|(with_reducible assumption)|assumption)
            obtain ⟨ad253,e253,hx253_0⟩:=Kd.at_int HR1.out x10_1 p253 q253;have hw253_0:=hx253_0;obtain rfl : ad249 = ad253:=(by injection e253)
            replace hx253_0:=(HB.out.cell (World.block_lt_of_cell? w _ hx253_0)).trans hx253_0;replace p253:=eq_true p253;replace q253:=eq_true q253;refine start_ (n:=54) (S:=fun w'=>w'.cell? ⟨gb248,0,none⟩ = some (.slice A0_0 l0_0.length c0_0)∧w'.cell? ⟨gb248,1,none⟩ = some (.slice A0_1 l0_1.length c0_1)∧w'.cell? ⟨gb248,2,none⟩ = some (.slice A0_2 l0_2.length c0_2)∧w'.cell? ⟨gb248,3,none⟩ = some (.slice A0_3 l0_3.length c0_3)∧w'.cell? (ad249.add (x10_1).toNat) = some (.int .i64 (rd l1 x10_1))∧w'.cell? (ad249.add (x10_1).toNat) = some (.int .i64 (rd l1 x10_1))∧w'.cell? (ad251.add (x10_1).toNat) = some (.int .i64 (rd l2 x10_1))∧w'.cell? (ad251.add (x10_1).toNat) = some (.int .i64 (rd l2 x10_1))∧w'.cell? (ad249.add (x10_1).toNat) = some (.int .i64 (rd l1 x10_1))) (ds:=[]) #[n',n',n',n',n',n',n',n',n',n',n',n',n',n',n',n',n',n',n',n',n',n',n',n',n',n',n',n',n',n',n',n',n',n',n',n',n',n',n',n',n',n',n',n',n',n',n',n',n',n',n',n',n',n'] (by kernel_rfl) rfl rfl ⟨(zD BK248.out 0).trans rfl,(zD BK248.out 1).trans rfl,(zD BK248.out 2).trans rfl,(zD BK248.out 3).trans rfl,((HB.out.cell (World.block_lt_of_cell? w _ hw249_0)).trans hw249_0),((HB.out.cell (World.block_lt_of_cell? w _ hw250_0)).trans hw250_0),((HB.out.cell (World.block_lt_of_cell? w _ hw251_0)).trans hw251_0),((HB.out.cell (World.block_lt_of_cell? w _ hw252_0)).trans hw252_0),((HB.out.cell (World.block_lt_of_cell? w _ hw253_0)).trans hw253_0)⟩ (fun hHeld=>?_);refine with_tabW laws_wAgrees.tab4 laws_wAgrees.bits4 (fun HT_ HW_=>?_)
            generalize wr.drew = w26 at BK248 HB hx249_0 hx250_0 hx251_0 hx252_0 hx253_0 hHeld ⊢
            refine pure_ (i:=0) (N:=some 13) (v:=?_) (a':=?_) #[y',n',n',n',n',n',n',n',n',n',n',n',n',n',n',n',n',n',n',n',n',n',n',n',n',n',n',n',n',n',n',n',n',n',n',n',n',n',n',n',n',n',n',n',n',n',n',n',n',n',n',n',n',n'] rfl rfl (any_of HT_.out (by kernel_rfl)) (fun _ _ _ h=>h) (Or.inl ⟨by rfl,?_⟩) ?_ ?_
            rotate_left
            ·intro w'
             go_simp
             with_reducible rfl
            rotate_left
            ·simp only [Act.put,List.setIfInBounds_toArray,List.set_cons_zero,List.set_cons_succ,i64_w,i32_w]
             rfl
            refine pure_ (i:=1) (N:=some 14) (v:=?_) (a':=?_) #[y',y',n',n',n',n',n',n',n',n',n',n',n',n',n',n',n',n',n',n',n',n',n',n',n',n',n',n',n',n',n',n',n',n',n',n',n',n',n',n',n',n',n',n',n',n',n',n',n',n',n',n',n',n'] rfl rfl (any_of HT_.out (by kernel_rfl)) (fun _ _ _ h=>h) (Or.inl ⟨by rfl,?_⟩) ?_ ?_
            rotate_left
            ·intro w'
             go_simp
             with_reducible rfl
            rotate_left
            ·simp only [Act.put,List.setIfInBounds_toArray,List.set_cons_zero,List.set_cons_succ,i64_w,i32_w]
             rfl
            refine pure_ (i:=2) (N:=some 15) (v:=?_) (a':=?_) #[y',y',y',n',n',n',n',n',n',n',n',n',n',n',n',n',n',n',n',n',n',n',n',n',n',n',n',n',n',n',n',n',n',n',n',n',n',n',n',n',n',n',n',n',n',n',n',n',n',n',n',n',n',n'] rfl rfl (any_of HT_.out (by kernel_rfl)) (fun _ _ _ h=>h) (Or.inl ⟨by rfl,?_⟩) ?_ ?_
            rotate_left
            ·intro w'
             go_simp
             with_reducible rfl
            rotate_left
            ·simp only [Act.put,List.setIfInBounds_toArray,List.set_cons_zero,List.set_cons_succ,i64_w,i32_w]
             rfl
            refine take_ (i:=3) (N:=some 16) (v:=?_) (a':=?_) #[y',y',y',y',n',n',n',n',n',n',n',n',n',n',n',n',n',n',n',n',n',n',n',n',n',n',n',n',n',n',n',n',n',n',n',n',n',n',n',n',n',n',n',n',n',n',n',n',n',n',n',n',n',n'] rfl rfl (take_ofW HT_.out HW_.out (by kernel_rfl)) (fun _ _ _ h=>h) (Or.inl ⟨by rfl,?_⟩) hHeld ?_ ?_
            rotate_left
            ·rintro w' ⟨s0,s1,s2,s3,s4,s5,s6,s7,s8⟩
             go_simp
             with_reducible rfl
            rotate_left
            ·simp only [Act.put,List.setIfInBounds_toArray,List.set_cons_zero,List.set_cons_succ,i64_w,i32_w]
             rfl
            refine pure_ (i:=4) (N:=some 17) (v:=?_) (a':=?_) #[y',y',y',y',y',n',n',n',n',n',n',n',n',n',n',n',n',n',n',n',n',n',n',n',n',n',n',n',n',n',n',n',n',n',n',n',n',n',n',n',n',n',n',n',n',n',n',n',n',n',n',n',n',n'] rfl rfl (any_of HT_.out (by kernel_rfl)) (fun _ _ _ h=>h) (Or.inl ⟨by rfl,?_⟩) ?_ ?_
            rotate_left
            ·intro w'
             go_simp
             with_reducible rfl
            rotate_left
            ·simp only [Act.put,List.setIfInBounds_toArray,List.set_cons_zero,List.set_cons_succ,i64_w,i32_w]
             rfl
            refine pure_ (i:=5) (N:=some 18) (v:=?_) (a':=?_) #[y',y',y',y',y',y',n',n',n',n',n',n',n',n',n',n',n',n',n',n',n',n',n',n',n',n',n',n',n',n',n',n',n',n',n',n',n',n',n',n',n',n',n',n',n',n',n',n',n',n',n',n',n',n'] rfl rfl (any_of HT_.out (by kernel_rfl)) (fun _ _ _ h=>h) (Or.inl ⟨by rfl,?_⟩) ?_ ?_
            rotate_left
            ·intro w'
             go_simp
             with_reducible rfl
            rotate_left
            ·simp only [Act.put,List.setIfInBounds_toArray,List.set_cons_zero,List.set_cons_succ,i64_w,i32_w]
             rfl
            refine pure_ (i:=6) (N:=some 19) (v:=?_) (a':=?_) #[y',y',y',y',y',y',y',n',n',n',n',n',n',n',n',n',n',n',n',n',n',n',n',n',n',n',n',n',n',n',n',n',n',n',n',n',n',n',n',n',n',n',n',n',n',n',n',n',n',n',n',n',n',n'] rfl rfl (any_of HT_.out (by kernel_rfl)) (fun _ _ _ h=>h) (Or.inl ⟨by rfl,?_⟩) ?_ ?_
            rotate_left
            ·intro w'
             go_simp
             with_reducible rfl
            rotate_left
            ·simp only [Act.put,List.setIfInBounds_toArray,List.set_cons_zero,List.set_cons_succ,i64_w,i32_w]
             rfl
            refine pure_ (i:=7) (N:=some 20) (v:=?_) (a':=?_) #[y',y',y',y',y',y',y',y',n',n',n',n',n',n',n',n',n',n',n',n',n',n',n',n',n',n',n',n',n',n',n',n',n',n',n',n',n',n',n',n',n',n',n',n',n',n',n',n',n',n',n',n',n',n'] rfl rfl (any_of HT_.out (by kernel_rfl)) (fun _ _ _ h=>h) (Or.inl ⟨by rfl,?_⟩) ?_ ?_
            rotate_left
            ·intro w'
             go_simp
             with_reducible rfl
            rotate_left
            ·simp only [Act.put,List.setIfInBounds_toArray,List.set_cons_zero,List.set_cons_succ,i64_w,i32_w]
             rfl
            refine pure_ (i:=8) (N:=some 21) (v:=?_) (a':=?_) #[y',y',y',y',y',y',y',y',y',n',n',n',n',n',n',n',n',n',n',n',n',n',n',n',n',n',n',n',n',n',n',n',n',n',n',n',n',n',n',n',n',n',n',n',n',n',n',n',n',n',n',n',n',n'] rfl rfl (any_of HT_.out (by kernel_rfl)) (fun _ _ _ h=>h) (Or.inl ⟨by rfl,?_⟩) ?_ ?_
            rotate_left
            ·intro w'
             go_simp
             with_reducible rfl
            rotate_left
            ·simp only [Act.put,List.setIfInBounds_toArray,List.set_cons_zero,List.set_cons_succ,i64_w,i32_w]
             rfl
            refine take_ (i:=9) (N:=some 22) (v:=?_) (a':=?_) #[y',y',y',y',y',y',y',y',y',y',n',n',n',n',n',n',n',n',n',n',n',n',n',n',n',n',n',n',n',n',n',n',n',n',n',n',n',n',n',n',n',n',n',n',n',n',n',n',n',n',n',n',n',n'] rfl rfl (take_ofW HT_.out HW_.out (by kernel_rfl)) (fun _ _ _ h=>h) (Or.inl ⟨by rfl,?_⟩) hHeld ?_ ?_
            rotate_left
            ·rintro w' ⟨s0,s1,s2,s3,s4,s5,s6,s7,s8⟩
             go_simp
             with_reducible rfl
            rotate_left
            ·simp only [Act.put,List.setIfInBounds_toArray,List.set_cons_zero,List.set_cons_succ,i64_w,i32_w]
             rfl
            refine pure_ (i:=10) (N:=some 23) (v:=?_) (a':=?_) #[y',y',y',y',y',y',y',y',y',y',y',n',n',n',n',n',n',n',n',n',n',n',n',n',n',n',n',n',n',n',n',n',n',n',n',n',n',n',n',n',n',n',n',n',n',n',n',n',n',n',n',n',n',n'] rfl rfl (any_of HT_.out (by kernel_rfl)) (fun _ _ _ h=>h) (Or.inl ⟨by rfl,?_⟩) ?_ ?_
            rotate_left
            ·intro w'
             go_simp
             with_reducible rfl
            rotate_left
            ·simp only [Act.put,List.setIfInBounds_toArray,List.set_cons_zero,List.set_cons_succ,i64_w,i32_w]
             rfl
            refine pure_ (i:=11) (N:=some 24) (v:=?_) (a':=?_) #[y',y',y',y',y',y',y',y',y',y',y',y',n',n',n',n',n',n',n',n',n',n',n',n',n',n',n',n',n',n',n',n',n',n',n',n',n',n',n',n',n',n',n',n',n',n',n',n',n',n',n',n',n',n'] rfl rfl (any_of HT_.out (by kernel_rfl)) (fun _ _ _ h=>h) (Or.inl ⟨by rfl,?_⟩) ?_ ?_
            rotate_left
            ·intro w'
             go_simp
             with_reducible rfl
            rotate_left
            ·simp only [Act.put,List.setIfInBounds_toArray,List.set_cons_zero,List.set_cons_succ,i64_w,i32_w]
             rfl
            refine pure_ (i:=12) (N:=some 25) (v:=?_) (a':=?_) #[y',y',y',y',y',y',y',y',y',y',y',y',y',n',n',n',n',n',n',n',n',n',n',n',n',n',n',n',n',n',n',n',n',n',n',n',n',n',n',n',n',n',n',n',n',n',n',n',n',n',n',n',n',n'] rfl rfl (any_of HT_.out (by kernel_rfl)) (fun _ _ _ h=>h) (Or.inl ⟨by rfl,?_⟩) ?_ ?_
            rotate_left
            ·intro w'
             go_simp
             with_reducible rfl
            rotate_left
            ·simp only [Act.put,List.setIfInBounds_toArray,List.set_cons_zero,List.set_cons_succ,i64_w,i32_w]
             rfl
            refine pure_ (i:=13) (N:=some 26) (v:=?_) (a':=?_) #[y',y',y',y',y',y',y',y',y',y',y',y',y',y',n',n',n',n',n',n',n',n',n',n',n',n',n',n',n',n',n',n',n',n',n',n',n',n',n',n',n',n',n',n',n',n',n',n',n',n',n',n',n',n'] rfl rfl (any_of HT_.out (by kernel_rfl)) (fun _ _ _ h=>h) (Or.inl ⟨by rfl,?_⟩) ?_ ?_
            rotate_left
            ·intro w'
             go_simp
             with_reducible rfl
            rotate_left
            ·simp only [Act.put,List.setIfInBounds_toArray,List.set_cons_zero,List.set_cons_succ,i64_w,i32_w]
             rfl
            refine pure_ (i:=14) (N:=some 27) (v:=?_) (a':=?_) #[y',y',y',y',y',y',y',y',y',y',y',y',y',y',y',n',n',n',n',n',n',n',n',n',n',n',n',n',n',n',n',n',n',n',n',n',n',n',n',n',n',n',n',n',n',n',n',n',n',n',n',n',n',n'] rfl rfl (any_of HT_.out (by kernel_rfl)) (fun _ _ _ h=>h) (Or.inl ⟨by rfl,?_⟩) ?_ ?_
            rotate_left
            ·intro w'
             go_simp
             with_reducible rfl
            rotate_left
            ·simp only [Act.put,List.setIfInBounds_toArray,List.set_cons_zero,List.set_cons_succ,i64_w,i32_w]
             rfl
            refine pure_ (i:=15) (N:=some 28) (v:=?_) (a':=?_) #[y',y',y',y',y',y',y',y',y',y',y',y',y',y',y',y',n',n',n',n',n',n',n',n',n',n',n',n',n',n',n',n',n',n',n',n',n',n',n',n',n',n',n',n',n',n',n',n',n',n',n',n',n',n'] rfl rfl (any_of HT_.out (by kernel_rfl)) (fun _ _ _ h=>h) (Or.inl ⟨by rfl,?_⟩) ?_ ?_
            rotate_left
            ·intro w'
             go_simp
             with_reducible rfl
            rotate_left
            ·simp only [Act.put,List.setIfInBounds_toArray,List.set_cons_zero,List.set_cons_succ,i64_w,i32_w]
             rfl
            refine take_ (i:=16) (N:=some 29) (v:=?_) (a':=?_) #[y',y',y',y',y',y',y',y',y',y',y',y',y',y',y',y',y',n',n',n',n',n',n',n',n',n',n',n',n',n',n',n',n',n',n',n',n',n',n',n',n',n',n',n',n',n',n',n',n',n',n',n',n',n'] rfl rfl (take_ofW HT_.out HW_.out (by kernel_rfl)) (fun _ _ _ h=>h) (Or.inl ⟨by rfl,?_⟩) hHeld ?_ ?_
            rotate_left
            ·rintro w' ⟨s0,s1,s2,s3,s4,s5,s6,s7,s8⟩
             go_simp
             with_reducible rfl
            rotate_left
            ·simp only [Act.put,List.setIfInBounds_toArray,List.set_cons_zero,List.set_cons_succ,i64_w,i32_w]
             rfl
            refine pure_ (i:=17) (N:=some 30) (v:=?_) (a':=?_) #[y',y',y',y',y',y',y',y',y',y',y',y',y',y',y',y',y',y',n',n',n',n',n',n',n',n',n',n',n',n',n',n',n',n',n',n',n',n',n',n',n',n',n',n',n',n',n',n',n',n',n',n',n',n'] rfl rfl (any_of HT_.out (by kernel_rfl)) (fun _ _ _ h=>h) (Or.inl ⟨by rfl,?_⟩) ?_ ?_
            rotate_left
            ·intro w'
             go_simp
             with_reducible rfl
            rotate_left
            ·simp only [Act.put,List.setIfInBounds_toArray,List.set_cons_zero,List.set_cons_succ,i64_w,i32_w]
             rfl
            refine pure_ (i:=18) (N:=some 31) (v:=?_) (a':=?_) #[y',y',y',y',y',y',y',y',y',y',y',y',y',y',y',y',y',y',y',n',n',n',n',n',n',n',n',n',n',n',n',n',n',n',n',n',n',n',n',n',n',n',n',n',n',n',n',n',n',n',n',n',n',n'] rfl rfl (any_of HT_.out (by kernel_rfl)) (fun _ _ _ h=>h) (Or.inl ⟨by rfl,?_⟩) ?_ ?_
            rotate_left
            ·intro w'
             go_simp
             with_reducible rfl
            rotate_left
            ·simp only [Act.put,List.setIfInBounds_toArray,List.set_cons_zero,List.set_cons_succ,i64_w,i32_w]
             rfl
            refine pure_ (i:=19) (N:=some 32) (v:=?_) (a':=?_) #[y',y',y',y',y',y',y',y',y',y',y',y',y',y',y',y',y',y',y',y',n',n',n',n',n',n',n',n',n',n',n',n',n',n',n',n',n',n',n',n',n',n',n',n',n',n',n',n',n',n',n',n',n',n'] rfl rfl (any_of HT_.out (by kernel_rfl)) (fun _ _ _ h=>h) (Or.inl ⟨by rfl,?_⟩) ?_ ?_
            rotate_left
            ·intro w'
             go_simp
             with_reducible rfl
            rotate_left
            ·simp only [Act.put,List.setIfInBounds_toArray,List.set_cons_zero,List.set_cons_succ,i64_w,i32_w]
             rfl
            refine pure_ (i:=20) (N:=some 33) (v:=?_) (a':=?_) #[y',y',y',y',y',y',y',y',y',y',y',y',y',y',y',y',y',y',y',y',y',n',n',n',n',n',n',n',n',n',n',n',n',n',n',n',n',n',n',n',n',n',n',n',n',n',n',n',n',n',n',n',n',n'] rfl rfl (any_of HT_.out (by kernel_rfl)) (fun _ _ _ h=>h) (Or.inl ⟨by rfl,?_⟩) ?_ ?_
            rotate_left
            ·intro w'
             go_simp
             with_reducible rfl
            rotate_left
            ·simp only [Act.put,List.setIfInBounds_toArray,List.set_cons_zero,List.set_cons_succ,i64_w,i32_w]
             rfl
            refine pure_ (i:=21) (N:=some 34) (v:=?_) (a':=?_) #[y',y',y',y',y',y',y',y',y',y',y',y',y',y',y',y',y',y',y',y',y',y',n',n',n',n',n',n',n',n',n',n',n',n',n',n',n',n',n',n',n',n',n',n',n',n',n',n',n',n',n',n',n',n'] rfl rfl (any_of HT_.out (by kernel_rfl)) (fun _ _ _ h=>h) (Or.inl ⟨by rfl,?_⟩) ?_ ?_
            rotate_left
            ·intro w'
             go_simp
             with_reducible rfl
            rotate_left
            ·simp only [Act.put,List.setIfInBounds_toArray,List.set_cons_zero,List.set_cons_succ,i64_w,i32_w]
             rfl
            refine pure_ (i:=22) (N:=some 35) (v:=?_) (a':=?_) #[y',y',y',y',y',y',y',y',y',y',y',y',y',y',y',y',y',y',y',y',y',y',y',n',n',n',n',n',n',n',n',n',n',n',n',n',n',n',n',n',n',n',n',n',n',n',n',n',n',n',n',n',n',n'] rfl rfl (any_of HT_.out (by kernel_rfl)) (fun _ _ _ h=>h) (Or.inl ⟨by rfl,?_⟩) ?_ ?_
            rotate_left
            ·intro w'
             go_simp
             with_reducible rfl
            rotate_left
            ·simp only [Act.put,List.setIfInBounds_toArray,List.set_cons_zero,List.set_cons_succ,i64_w,i32_w]
             rfl
            refine take_ (i:=23) (N:=some 36) (v:=?_) (a':=?_) #[y',y',y',y',y',y',y',y',y',y',y',y',y',y',y',y',y',y',y',y',y',y',y',y',n',n',n',n',n',n',n',n',n',n',n',n',n',n',n',n',n',n',n',n',n',n',n',n',n',n',n',n',n',n'] rfl rfl (take_ofW HT_.out HW_.out (by kernel_rfl)) (fun _ _ _ h=>h) (Or.inl ⟨by rfl,?_⟩) hHeld ?_ ?_
            rotate_left
            ·rintro w' ⟨s0,s1,s2,s3,s4,s5,s6,s7,s8⟩
             go_simp
             with_reducible rfl
            rotate_left
            ·simp only [Act.put,List.setIfInBounds_toArray,List.set_cons_zero,List.set_cons_succ,i64_w,i32_w]
             rfl
            refine pure_ (i:=24) (N:=some 37) (v:=?_) (a':=?_) #[y',y',y',y',y',y',y',y',y',y',y',y',y',y',y',y',y',y',y',y',y',y',y',y',y',n',n',n',n',n',n',n',n',n',n',n',n',n',n',n',n',n',n',n',n',n',n',n',n',n',n',n',n',n'] rfl rfl (any_of HT_.out (by kernel_rfl)) (fun _ _ _ h=>h) (Or.inl ⟨by rfl,?_⟩) ?_ ?_
            rotate_left
            ·intro w'
             go_simp
             with_reducible rfl
            rotate_left
            ·simp only [Act.put,List.setIfInBounds_toArray,List.set_cons_zero,List.set_cons_succ,i64_w,i32_w]
             rfl
            refine pure_ (i:=25) (N:=some 38) (v:=?_) (a':=?_) #[y',y',y',y',y',y',y',y',y',y',y',y',y',y',y',y',y',y',y',y',y',y',y',y',y',y',n',n',n',n',n',n',n',n',n',n',n',n',n',n',n',n',n',n',n',n',n',n',n',n',n',n',n',n'] rfl rfl (any_of HT_.out (by kernel_rfl)) (fun _ _ _ h=>h) (Or.inl ⟨by rfl,?_⟩) ?_ ?_
            rotate_left
            ·intro w'
             go_simp
             with_reducible rfl
            rotate_left
            ·simp only [Act.put,List.setIfInBounds_toArray,List.set_cons_zero,List.set_cons_succ,i64_w,i32_w]
             rfl
            refine pure_ (i:=26) (N:=some 39) (v:=?_) (a':=?_) #[y',y',y',y',y',y',y',y',y',y',y',y',y',y',y',y',y',y',y',y',y',y',y',y',y',y',y',n',n',n',n',n',n',n',n',n',n',n',n',n',n',n',n',n',n',n',n',n',n',n',n',n',n',n'] rfl rfl (any_of HT_.out (by kernel_rfl)) (fun _ _ _ h=>h) (Or.inl ⟨by rfl,?_⟩) ?_ ?_
            rotate_left
            ·intro w'
             go_simp
             with_reducible rfl
            rotate_left
            ·simp only [Act.put,List.setIfInBounds_toArray,List.set_cons_zero,List.set_cons_succ,i64_w,i32_w]
             rfl
            refine pure_ (i:=27) (N:=some 40) (v:=?_) (a':=?_) #[y',y',y',y',y',y',y',y',y',y',y',y',y',y',y',y',y',y',y',y',y',y',y',y',y',y',y',y',n',n',n',n',n',n',n',n',n',n',n',n',n',n',n',n',n',n',n',n',n',n',n',n',n',n'] rfl rfl (any_of HT_.out (by kernel_rfl)) (fun _ _ _ h=>h) (Or.inl ⟨by rfl,?_⟩) ?_ ?_
            rotate_left
            ·intro w'
             go_simp
             with_reducible rfl
            rotate_left
            ·simp only [Act.put,List.setIfInBounds_toArray,List.set_cons_zero,List.set_cons_succ,i64_w,i32_w]
             rfl
            refine pure_ (i:=28) (N:=some 41) (v:=?_) (a':=?_) #[y',y',y',y',y',y',y',y',y',y',y',y',y',y',y',y',y',y',y',y',y',y',y',y',y',y',y',y',y',n',n',n',n',n',n',n',n',n',n',n',n',n',n',n',n',n',n',n',n',n',n',n',n',n'] rfl rfl (any_of HT_.out (by kernel_rfl)) (fun _ _ _ h=>h) (Or.inl ⟨by rfl,?_⟩) ?_ ?_
            rotate_left
            ·intro w'
             go_simp
             with_reducible rfl
            rotate_left
            ·simp only [Act.put,List.setIfInBounds_toArray,List.set_cons_zero,List.set_cons_succ,i64_w,i32_w]
             rfl
            refine pure_ (i:=29) (N:=some 42) (v:=?_) (a':=?_) #[y',y',y',y',y',y',y',y',y',y',y',y',y',y',y',y',y',y',y',y',y',y',y',y',y',y',y',y',y',y',n',n',n',n',n',n',n',n',n',n',n',n',n',n',n',n',n',n',n',n',n',n',n',n'] rfl rfl (any_of HT_.out (by kernel_rfl)) (fun _ _ _ h=>h) (Or.inl ⟨by rfl,?_⟩) ?_ ?_
            rotate_left
            ·intro w'
             go_simp
             with_reducible rfl
            rotate_left
            ·simp only [Act.put,List.setIfInBounds_toArray,List.set_cons_zero,List.set_cons_succ,i64_w,i32_w]
             rfl
            refine pure_ (i:=32) (N:=some 45) (v:=?_) (a':=?_) #[y',y',y',y',y',y',y',y',y',y',y',y',y',y',y',y',y',y',y',y',y',y',y',y',y',y',y',y',y',y',n',n',y',n',n',n',n',n',n',n',n',n',n',n',n',n',n',n',n',n',n',n',n',n'] rfl rfl (any_of HT_.out (by kernel_rfl)) (fun _ _ _ h=>h) (Or.inl ⟨by rfl,?_⟩) ?_ ?_
            rotate_left
            ·intro w'
             go_simp
             with_reducible rfl
            rotate_left
            ·simp only [Act.put,List.setIfInBounds_toArray,List.set_cons_zero,List.set_cons_succ,i64_w,i32_w]
             rfl
            refine pure_ (i:=33) (N:=some 46) (v:=?_) (a':=?_) #[y',y',y',y',y',y',y',y',y',y',y',y',y',y',y',y',y',y',y',y',y',y',y',y',y',y',y',y',y',y',n',n',y',y',n',n',n',n',n',n',n',n',n',n',n',n',n',n',n',n',n',n',n',n'] rfl rfl (any_of HT_.out (by kernel_rfl)) (fun _ _ _ h=>h) (Or.inl ⟨by rfl,?_⟩) ?_ ?_
            rotate_left
            ·intro w'
             go_simp
             with_reducible rfl
            rotate_left
            ·simp only [Act.put,List.setIfInBounds_toArray,List.set_cons_zero,List.set_cons_succ,i64_w,i32_w]
             rfl
            refine take_ (i:=30) (N:=some 43) (v:=?_) (a':=?_) #[y',y',y',y',y',y',y',y',y',y',y',y',y',y',y',y',y',y',y',y',y',y',y',y',y',y',y',y',y',y',y',n',y',y',n',n',n',n',n',n',n',n',n',n',n',n',n',n',n',n',n',n',n',n'] rfl rfl (take_ofW HT_.out HW_.out (by kernel_rfl)) (fun _ _ _ h=>h) (Or.inl ⟨by rfl,?_⟩) hHeld ?_ ?_
            rotate_left
            ·rintro w' ⟨s0,s1,s2,s3,s4,s5,s6,s7,s8⟩
             go_simp
             with_reducible rfl
            rotate_left
            ·simp only [Act.put,List.setIfInBounds_toArray,List.set_cons_zero,List.set_cons_succ,i64_w,i32_w]
             rfl
            refine take_ (i:=31) (N:=some 44) (v:=?_) (a':=?_) #[y',y',y',y',y',y',y',y',y',y',y',y',y',y',y',y',y',y',y',y',y',y',y',y',y',y',y',y',y',y',y',y',y',y',n',n',n',n',n',n',n',n',n',n',n',n',n',n',n',n',n',n',n',n'] rfl rfl (take_ofW HT_.out HW_.out (by kernel_rfl)) (fun _ _ _ h=>h) (Or.inl ⟨by rfl,?_⟩) hHeld ?_ ?_
            rotate_left
            ·rintro w' ⟨s0,s1,s2,s3,s4,s5,s6,s7,s8⟩
             go_simp
             with_reducible rfl
            rotate_left
            ·simp only [Act.put,List.setIfInBounds_toArray,List.set_cons_zero,List.set_cons_succ,i64_w,i32_w]
             rfl
            refine one_ (i:=34) (N:=some 47) #[y',y',y',y',y',y',y',y',y',y',y',y',y',y',y',y',y',y',y',y',y',y',y',y',y',y',y',y',y',y',y',y',y',y',y',n',n',n',n',n',n',n',n',n',n',n',n',n',n',n',n',n',n',n'] rfl rfl (one_of HT_.out (by kernel_rfl)) (by decide) (fun K hK=>?_)
            refine goes_ Try.func21 (by kernel_rfl) rfl #[.agg #[.slice A0_0 l0_0.length c0_0,.slice A0_1 l0_1.length c0_1,.slice A0_2 l0_2.length c0_2,.slice A0_3 l0_3.length c0_3],.slice (some ad251) l2.length c2,.int .i64 x10_1] (by rfl) rfl rfl (by (try simp only [List.map_toArray,List.map_cons,List.map_nil]);first|done|rfl|(simp only [List.length_drop,List.length_take];rfl)) ?_
            with_reducible refine (laws_wWant.calls _ _ l0_0 _ _ l0_1 _ _ l0_2 _ _ l0_3 _ _ l2 x10_1 t254 _ ?side1 ?side2 ?side3 ?side4 ?side5 ?side6 ?side7 ?side8 ?side9 ?side10 A17.out).mono ?_
            (case side1=>repeat (first|exact (zY HR0_0.out HB.out)|(with_reducible refine zT ?_ _)|(with_reducible refine zU ?_ _)|(with_reducible refine zV ?_)))
            (case side2=>exact HC0_0.out)
            (case side3=>repeat (first|exact (zY HR0_1.out HB.out)|(with_reducible refine zT ?_ _)|(with_reducible refine zU ?_ _)|(with_reducible refine zV ?_)))
            (case side4=>exact HC0_1.out)
            (case side5=>repeat (first|exact (zY HR0_2.out HB.out)|(with_reducible refine zT ?_ _)|(with_reducible refine zU ?_ _)|(with_reducible refine zV ?_)))
            (case side6=>exact HC0_2.out)
            (case side7=>repeat (first|exact (zY HR0_3.out HB.out)|(with_reducible refine zT ?_ _)|(with_reducible refine zU ?_ _)|(with_reducible refine zV ?_)))
            (case side8=>exact HC0_3.out)
            (case side9=>repeat (first|exact (zY HR2.out HB.out)|(with_reducible refine zT ?_ _)|(with_reducible refine zU ?_ _)|(with_reducible refine zV ?_)))
            (case side10=>exact HC2.out)
            rintro e w27 ⟨rfl,hb⟩
            refine ⟨_,rfl,?_⟩
            have n0_:=zm (zL (g:=gb248) (o:=.cells #[.slice A0_0 l0_0.length c0_0,.slice A0_1 l0_1.length c0_1,.slice A0_2 l0_2.length c0_2,.slice A0_3 l0_3.length c0_3] 27 (0,0)) (by (with_reducible repeat (first|refine zH ?_ _|refine zI ?_|refine zG ?_ _));exact BK248.out) hb)
            have n1_:=zm (zK (by repeat (first|(with_reducible first|exact HB.out|apply zA|apply zB|apply zC|refine zF ?_ GE248.out)|exact HB.out)) hb)
            clear BK248;clear HB;have BK248:=n0_;have HB:=n1_;clear n0_ n1_;(try clear hb);(try clear hb2);(try clear hk);(try clear hi);refine hK.out _ _ ⟨(zD BK248.out 0).trans rfl,(zD BK248.out 1).trans rfl,(zD BK248.out 2).trans rfl,(zD BK248.out 3).trans rfl,((HB.out.cell (World.block_lt_of_cell? w _ hw249_0)).trans hw249_0),((HB.out.cell (World.block_lt_of_cell? w _ hw250_0)).trans hw250_0),((HB.out.cell (World.block_lt_of_cell? w _ hw251_0)).trans hw251_0),((HB.out.cell (World.block_lt_of_cell? w _ hw252_0)).trans hw252_0),((HB.out.cell (World.block_lt_of_cell? w _ hw253_0)).trans hw253_0)⟩ (fun hHeld=>?_)
            clear hK K;refine norm_ (a':=?_) ?_ ?_
            rotate_left
            ·show Act.put _ (some 47) _ = _
             simp only [Act.put,List.setIfInBounds_toArray,List.set_cons_zero,List.set_cons_succ,i64_w,i32_w]
             rfl
            refine pure_ (i:=35) (N:=some 48) (v:=?_) (a':=?_) #[y',y',y',y',y',y',y',y',y',y',y',y',y',y',y',y',y',y',y',y',y',y',y',y',y',y',y',y',y',y',y',y',y',y',y',y',n',n',n',n',n',n',n',n',n',n',n',n',n',n',n',n',n',n'] rfl rfl (any_of HT_.out (by kernel_rfl)) (fun _ _ _ h=>h) (Or.inl ⟨by rfl,?_⟩) ?_ ?_
            rotate_left
            ·intro w'
             go_simp
             with_reducible rfl
            rotate_left
            ·simp only [Act.put,List.setIfInBounds_toArray,List.set_cons_zero,List.set_cons_succ,i64_w,i32_w]
             rfl
            refine pure_ (i:=36) (N:=some 49) (v:=?_) (a':=?_) #[y',y',y',y',y',y',y',y',y',y',y',y',y',y',y',y',y',y',y',y',y',y',y',y',y',y',y',y',y',y',y',y',y',y',y',y',y',n',n',n',n',n',n',n',n',n',n',n',n',n',n',n',n',n'] rfl rfl (any_of HT_.out (by kernel_rfl)) (fun _ _ _ h=>h) (Or.inl ⟨by rfl,?_⟩) ?_ ?_
            rotate_left
            ·intro w'
             go_simp
             with_reducible rfl
            rotate_left
            ·simp only [Act.put,List.setIfInBounds_toArray,List.set_cons_zero,List.set_cons_succ,i64_w,i32_w]
             rfl
            refine pure_ (i:=37) (N:=some 50) (v:=?_) (a':=?_) #[y',y',y',y',y',y',y',y',y',y',y',y',y',y',y',y',y',y',y',y',y',y',y',y',y',y',y',y',y',y',y',y',y',y',y',y',y',y',n',n',n',n',n',n',n',n',n',n',n',n',n',n',n',n'] rfl rfl (any_of HT_.out (by kernel_rfl)) (fun _ _ _ h=>h) (Or.inl ⟨by rfl,?_⟩) ?_ ?_
            rotate_left
            ·intro w'
             go_simp
             with_reducible rfl
            rotate_left
            ·simp only [Act.put,List.setIfInBounds_toArray,List.set_cons_zero,List.set_cons_succ,i64_w,i32_w]
             rfl
            refine pure_ (i:=38) (N:=some 51) (v:=undef) (a':=?_) #[y',y',y',y',y',y',y',y',y',y',y',y',y',y',y',y',y',y',y',y',y',y',y',y',y',y',y',y',y',y',y',y',y',y',y',y',y',y',y',n',n',n',n',n',n',n',n',n',n',n',n',n',n',n'] rfl rfl (any_of HT_.out (by kernel_rfl)) (fun _ _ _ h=>h) (Or.inr ⟨by rfl,rfl⟩) ?_ ?_
            rotate_left
            ·simp only [Act.put,List.setIfInBounds_toArray,List.set_cons_zero,List.set_cons_succ,i64_w,i32_w]
             rfl
            refine pure_ (i:=39) (N:=some 52) (v:=undef) (a':=?_) #[y',y',y',y',y',y',y',y',y',y',y',y',y',y',y',y',y',y',y',y',y',y',y',y',y',y',y',y',y',y',y',y',y',y',y',y',y',y',y',y',n',n',n',n',n',n',n',n',n',n',n',n',n',n'] rfl rfl (any_of HT_.out (by kernel_rfl)) (fun _ _ _ h=>h) (Or.inr ⟨by rfl,rfl⟩) ?_ ?_
            rotate_left
            ·simp only [Act.put,List.setIfInBounds_toArray,List.set_cons_zero,List.set_cons_succ,i64_w,i32_w]
             rfl
            refine pure_ (i:=40) (N:=some 53) (v:=undef) (a':=?_) #[y',y',y',y',y',y',y',y',y',y',y',y',y',y',y',y',y',y',y',y',y',y',y',y',y',y',y',y',y',y',y',y',y',y',y',y',y',y',y',y',y',n',n',n',n',n',n',n',n',n',n',n',n',n'] rfl rfl (any_of HT_.out (by kernel_rfl)) (fun _ _ _ h=>h) (Or.inr ⟨by rfl,rfl⟩) ?_ ?_
            rotate_left
            ·simp only [Act.put,List.setIfInBounds_toArray,List.set_cons_zero,List.set_cons_succ,i64_w,i32_w]
             rfl
            refine pure_ (i:=41) (N:=some 54) (v:=undef) (a':=?_) #[y',y',y',y',y',y',y',y',y',y',y',y',y',y',y',y',y',y',y',y',y',y',y',y',y',y',y',y',y',y',y',y',y',y',y',y',y',y',y',y',y',y',n',n',n',n',n',n',n',n',n',n',n',n'] rfl rfl (any_of HT_.out (by kernel_rfl)) (fun _ _ _ h=>h) (Or.inr ⟨by rfl,rfl⟩) ?_ ?_
            rotate_left
            ·simp only [Act.put,List.setIfInBounds_toArray,List.set_cons_zero,List.set_cons_succ,i64_w,i32_w]
             rfl
            refine pure_ (i:=42) (N:=some 55) (v:=undef) (a':=?_) #[y',y',y',y',y',y',y',y',y',y',y',y',y',y',y',y',y',y',y',y',y',y',y',y',y',y',y',y',y',y',y',y',y',y',y',y',y',y',y',y',y',y',y',n',n',n',n',n',n',n',n',n',n',n'] rfl rfl (any_of HT_.out (by kernel_rfl)) (fun _ _ _ h=>h) (Or.inr ⟨by rfl,rfl⟩) ?_ ?_
            rotate_left
            ·simp only [Act.put,List.setIfInBounds_toArray,List.set_cons_zero,List.set_cons_succ,i64_w,i32_w]
             rfl
            refine pure_ (i:=43) (N:=some 56) (v:=undef) (a':=?_) #[y',y',y',y',y',y',y',y',y',y',y',y',y',y',y',y',y',y',y',y',y',y',y',y',y',y',y',y',y',y',y',y',y',y',y',y',y',y',y',y',y',y',y',y',n',n',n',n',n',n',n',n',n',n'] rfl rfl (any_of HT_.out (by kernel_rfl)) (fun _ _ _ h=>h) (Or.inr ⟨by rfl,rfl⟩) ?_ ?_
            rotate_left
            ·simp only [Act.put,List.setIfInBounds_toArray,List.set_cons_zero,List.set_cons_succ,i64_w,i32_w]
             rfl
            refine pure_ (i:=44) (N:=some 57) (v:=undef) (a':=?_) #[y',y',y',y',y',y',y',y',y',y',y',y',y',y',y',y',y',y',y',y',y',y',y',y',y',y',y',y',y',y',y',y',y',y',y',y',y',y',y',y',y',y',y',y',y',n',n',n',n',n',n',n',n',n'] rfl rfl (any_of HT_.out (by kernel_rfl)) (fun _ _ _ h=>h) (Or.inr ⟨by rfl,rfl⟩) ?_ ?_
            rotate_left
            ·simp only [Act.put,List.setIfInBounds_toArray,List.set_cons_zero,List.set_cons_succ,i64_w,i32_w]
             rfl
            refine pure_ (i:=45) (N:=some 58) (v:=undef) (a':=?_) #[y',y',y',y',y',y',y',y',y',y',y',y',y',y',y',y',y',y',y',y',y',y',y',y',y',y',y',y',y',y',y',y',y',y',y',y',y',y',y',y',y',y',y',y',y',y',n',n',n',n',n',n',n',n'] rfl rfl (any_of HT_.out (by kernel_rfl)) (fun _ _ _ h=>h) (Or.inr ⟨by rfl,rfl⟩) ?_ ?_
            rotate_left
            ·simp only [Act.put,List.setIfInBounds_toArray,List.set_cons_zero,List.set_cons_succ,i64_w,i32_w]
             rfl
            refine pure_ (i:=46) (N:=some 59) (v:=undef) (a':=?_) #[y',y',y',y',y',y',y',y',y',y',y',y',y',y',y',y',y',y',y',y',y',y',y',y',y',y',y',y',y',y',y',y',y',y',y',y',y',y',y',y',y',y',y',y',y',y',y',n',n',n',n',n',n',n'] rfl rfl (any_of HT_.out (by kernel_rfl)) (fun _ _ _ h=>h) (Or.inr ⟨by rfl,rfl⟩) ?_ ?_
            rotate_left
            ·simp only [Act.put,List.setIfInBounds_toArray,List.set_cons_zero,List.set_cons_succ,i64_w,i32_w]
             rfl
            refine pure_ (i:=47) (N:=some 60) (v:=undef) (a':=?_) #[y',y',y',y',y',y',y',y',y',y',y',y',y',y',y',y',y',y',y',y',y',y',y',y',y',y',y',y',y',y',y',y',y',y',y',y',y',y',y',y',y',y',y',y',y',y',y',y',n',n',n',n',n',n'] rfl rfl (any_of HT_.out (by kernel_rfl)) (fun _ _ _ h=>h) (Or.inr ⟨by rfl,rfl⟩) ?_ ?_
            rotate_left
            ·simp only [Act.put,List.setIfInBounds_toArray,List.set_cons_zero,List.set_cons_succ,i64_w,i32_w]
             rfl
            refine pure_ (i:=48) (N:=some 61) (v:=undef) (a':=?_) #[y',y',y',y',y',y',y',y',y',y',y',y',y',y',y',y',y',y',y',y',y',y',y',y',y',y',y',y',y',y',y',y',y',y',y',y',y',y',y',y',y',y',y',y',y',y',y',y',y',n',n',n',n',n'] rfl rfl (any_of HT_.out (by kernel_rfl)) (fun _ _ _ h=>h) (Or.inr ⟨by rfl,rfl⟩) ?_ ?_
            rotate_left
            ·simp only [Act.put,List.setIfInBounds_toArray,List.set_cons_zero,List.set_cons_succ,i64_w,i32_w]
             rfl
            refine pure_ (i:=49) (N:=some 62) (v:=undef) (a':=?_) #[y',y',y',y',y',y',y',y',y',y',y',y',y',y',y',y',y',y',y',y',y',y',y',y',y',y',y',y',y',y',y',y',y',y',y',y',y',y',y',y',y',y',y',y',y',y',y',y',y',y',n',n',n',n'] rfl rfl (any_of HT_.out (by kernel_rfl)) (fun _ _ _ h=>h) (Or.inr ⟨by rfl,rfl⟩) ?_ ?_
            rotate_left
            ·simp only [Act.put,List.setIfInBounds_toArray,List.set_cons_zero,List.set_cons_succ,i64_w,i32_w]
             rfl
            refine pure_ (i:=50) (N:=some 63) (v:=undef) (a':=?_) #[y',y',y',y',y',y',y',y',y',y',y',y',y',y',y',y',y',y',y',y',y',y',y',y',y',y',y',y',y',y',y',y',y',y',y',y',y',y',y',y',y',y',y',y',y',y',y',y',y',y',y',n',n',n'] rfl rfl (any_of HT_.out (by kernel_rfl)) (fun _ _ _ h=>h) (Or.inr ⟨by rfl,rfl⟩) ?_ ?_
            rotate_left
            ·simp only [Act.put,List.setIfInBounds_toArray,List.set_cons_zero,List.set_cons_succ,i64_w,i32_w]
             rfl
            refine pure_ (i:=51) (N:=some 64) (v:=undef) (a':=?_) #[y',y',y',y',y',y',y',y',y',y',y',y',y',y',y',y',y',y',y',y',y',y',y',y',y',y',y',y',y',y',y',y',y',y',y',y',y',y',y',y',y',y',y',y',y',y',y',y',y',y',y',y',n',n'] rfl rfl (any_of HT_.out (by kernel_rfl)) (fun _ _ _ h=>h) (Or.inr ⟨by rfl,rfl⟩) ?_ ?_
            rotate_left
            ·simp only [Act.put,List.setIfInBounds_toArray,List.set_cons_zero,List.set_cons_succ,i64_w,i32_w]
             rfl
            refine pure_ (i:=52) (N:=some 65) (v:=undef) (a':=?_) #[y',y',y',y',y',y',y',y',y',y',y',y',y',y',y',y',y',y',y',y',y',y',y',y',y',y',y',y',y',y',y',y',y',y',y',y',y',y',y',y',y',y',y',y',y',y',y',y',y',y',y',y',y',n'] rfl rfl (any_of HT_.out (by kernel_rfl)) (fun _ _ _ h=>h) (Or.inr ⟨by rfl,rfl⟩) ?_ ?_
            rotate_left
            ·simp only [Act.put,List.setIfInBounds_toArray,List.set_cons_zero,List.set_cons_succ,i64_w,i32_w]
             rfl
            refine pure_ (i:=53) (N:=some 66) (v:=?_) (a':=?_) #[y',y',y',y',y',y',y',y',y',y',y',y',y',y',y',y',y',y',y',y',y',y',y',y',y',y',y',y',y',y',y',y',y',y',y',y',y',y',y',y',y',y',y',y',y',y',y',y',y',y',y',y',y',y'] rfl rfl (any_of HT_.out (by kernel_rfl)) (fun _ _ _ h=>h) (Or.inl ⟨by rfl,?_⟩) ?_ ?_
            rotate_left
            ·intro w'
             go_simp
             with_reducible rfl
            rotate_left
            ·simp only [Act.put,List.setIfInBounds_toArray,List.set_cons_zero,List.set_cons_succ,i64_w,i32_w]
             rfl
            refine done_ (done_of HT_.out (by kernel_rfl)) ?_
            try go_wp2
            go_ret
            exact ⟨by first|rfl|(simp [errW_none,errW_some] <;> rfl)|(simp [*,errW_none,errW_some] <;> rfl),by repeat (first|(with_reducible first|exact HB.out|apply zA|apply zB|apply zC|refine zF ?_ GE248.out)|exact HB.out)⟩
        ·rw [if_neg c12] at H;exact absurd H (by simp)
     ·rw [if_neg c7] at H;exact absurd H (by simp)
    ·rw [if_neg c6] at H;exact absurd H (by simp)
   ·rw [if_neg c5] at H;have c5b0 : decide (x10_1 < (l2.length : Int)) = false:=decide_eq_false c5;clear c5;obtain rfl:=Option.some.inj H;go_wp2;go_ret
    exact ⟨by first|rfl|(simp [errW_none,errW_some] <;> rfl)|(simp [*,errW_none,errW_some] <;> rfl),by repeat (first|(with_reducible first|exact HB.out|apply zA|apply zB|apply zC|refine zF ?_ GE248.out)|exact HB.out)⟩

end Go.Proofs.Ytpdcghclcgbcfaa.P
