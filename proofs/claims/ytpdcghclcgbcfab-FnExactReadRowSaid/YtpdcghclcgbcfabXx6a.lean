-- written by a program of this session (after the kit's print), not trusted: Lean checks it
import Derived.Test.YtpdcghclcgbcfabVFour
import Derived.Test.YtpdcghclcgbcfabVRepsOne
import Derived.Test.YtpdcghclcgbcfabXx0
import Derived.Test.YtpdcghclcgbcfabXx2
import Derived.Test.YtpdcghclcgbcfabXx3
import Derived.Test.YtpdcghclcgbcfabXx5
namespace Go.Proofs.Ytpdcghclcgbcfab.X
open Go.RowKit Go.Proofs.YtpdcghclcgbcfabW.PrintWords Go.Proofs.YtpdcghclcgbcfabW.PrintLast Go.Proofs.YtpdcghclcgbcfabW.PrintMore
open Go.Proofs.YtpdcghclcgbcfabW.PrintWords renaming add_block → zO, below_alloc → zA, below_drew1 → zC, below_set → zF, below_size → zJ, below_step → zK, blk_alloc → zG, blk_below → zL, blk_cell → zD, blk_drew → zI, blk_drewN → zH, blk_frozen → zE, box_event → zN, gate_dst → zM, pw_below_drewN → zB, pw_cell_below → z3
open Go.Proofs.YtpdcghclcgbcfabW.PrintWords.Kd renaming C_alloc → zT, C_drew → zV, C_drewN → zU, N_alloc → zJb, N_drew → zLb, N_drewN → zKb, R_alloc → zP, R_base → zCb, R_below → zHb, R_drew → zR, R_drewN → zQ, R_elder' → zGb, R_far → zX, R_lower → zZ, R_mono → zS, R_reads' → zW, R_slice → zAb, R_types → zBb
open Go.Proofs.YtpdcghclcgbcfabW.PrintWords.Aside0 renaming mk → zm
open Bool renaming true → y', false → n'
open List renaming setIfInBounds_toArray → u0, set_cons_zero → u1, set_cons_succ → u2
attribute [local go_sem] max2_int min2_int max_two min_two max_three min_three max_four min_four   -- for this text's walks alone
set_option linter.unusedVariables false
set_option linter.unusedSimpArgs false

/-! ### spec_l4signal: function 42 -/
mutual
def spec_l4signal.j0 : Nat→ByteArray→List ByteArray→Bool→Option (List Int × List Int × List Bool × (List (List Bool)) × Bool)
 | 0,_,_,_=>none
 | k + 1,x0,x4,x19=>if x19 = true then (some (([] : List Int),([] : List Int),([] : List Bool),([] : List (List Bool)),false)) else ((some (([(-1)] : List Int) : List Int)).bind fun y136=>(if 0 ≤ (wrap64 ((x4.length : Int) - 1)) then (if (wrap64 ((x4.length : Int) - 1)) < (x4.length : Int) then ((spec_l4num.f k (rdOf ByteArray.empty x4 (wrap64 ((x4.length : Int) - 1)))).bind fun t140=>((some (([t140] : List Int) : List Int)).bind fun y141=>(if 0 < (x4.length : Int) then ((some (([((rdOf ByteArray.empty x4 0).toList == ([111,112,101,110] : List UInt8))] : List Bool) : List Bool)).bind fun y145=>(if (x4.length : Int) = 7 then (if 4 < (x4.length : Int) then ((spec_l4num.f k (rdOf ByteArray.empty x4 4)).bind fun t150=>(if 0 < (y136.length : Int) then (if t150 < 0 then (some (([] : List Int),([] : List Int),([] : List Bool),([] : List (List Bool)),false)) else (spec_l4signal.j1 k x0 x4 (y136.set (0 : Int).toNat t150) y141 y145)) else (none))) else (none)) else (spec_l4signal.j1 k x0 x4 y136 y141 y145))) else (none)))) else (none)) else (none)))
def spec_l4signal.j1 : Nat→ByteArray→List ByteArray→List Int→List Int→List Bool→Option (List Int × List Int × List Bool × (List (List Bool)) × Bool)
 | 0,_,_,_,_,_=>none
 | k + 1,x0,x4,x149000,x149001,x149002=>spec_l4signal.l0 k x0 x4 ([] : List Bool) 0 x149000 x149001 x149002
def spec_l4signal.l0 : Nat→ByteArray→List ByteArray→List Bool→Int→List Int→List Int→List Bool→Option (List Int × List Int × List Bool × (List (List Bool)) × Bool)
 | 0,_,_,_,_,_,_,_=>none
 | k + 1,x0,x4,x6,x7,x149000,x149001,x149002=>if x7 < 4 then (if 2 < (x4.length : Int) then (if 0 ≤ x7 then (if x7 < ((rdOf ByteArray.empty x4 2).size : Int) then (if x6.length < 140737488355328 then (spec_l4signal.l0 k x0 x4 (x6 ++ [((bt (rdOf ByteArray.empty x4 2) x7) != 45)]) (wrap64 (x7 + 1)) x149000 x149001 x149002) else (none)) else (none)) else (none)) else (none)) else ((some (([x6] : List (List Bool)) : List (List Bool))).bind fun y157=>(if 0 < (x149001.length : Int) then (if (rd x149001 0) ≥ 0 then ((spec_l4line.f k x149000 x149001 x149002 y157 0).bind fun t161=>(some (x149000,x149001,x149002,y157,(t161.toList == x0.toList)))) else (some (x149000,x149001,x149002,y157,false))) else (none)))
end
def spec_l4signal.f (k : Nat) (a0 : ByteArray) : Option (List Int × List Int × List Bool × (List (List Bool)) × Bool):=(spec_l4words.f k a0).bind fun t132=>(if (t132.length : Int) < 6 then (spec_l4signal.j0 k a0 t132 true) else (if 2 < (t132.length : Int) then (spec_l4signal.j0 k a0 t132 (((rdOf ByteArray.empty t132 2).size : Int) != 4)) else (none)))
theorem spec_l4signal.mono_l : ∀ k,(∀ y0 y1 y2,LeO (spec_l4signal.j0 k y0 y1 y2) (spec_l4signal.j0 (k + 1) y0 y1 y2))∧(∀ y0 y1 y2 y3 y4,LeO (spec_l4signal.j1 k y0 y1 y2 y3 y4) (spec_l4signal.j1 (k + 1) y0 y1 y2 y3 y4))∧(∀ y0 y1 y2 y3 y4 y5 y6,LeO (spec_l4signal.l0 k y0 y1 y2 y3 y4 y5 y6) (spec_l4signal.l0 (k + 1) y0 y1 y2 y3 y4 y5 y6))
 | 0=>⟨fun _ _ _ r h=>by simp [spec_l4signal.j0] at h,fun _ _ _ _ _ r h=>by simp [spec_l4signal.j1] at h,fun _ _ _ _ _ _ _ r h=>by simp [spec_l4signal.l0] at h⟩
 | k + 1=>by
  obtain ⟨ih0,ih1,ih2⟩:=spec_l4signal.mono_l k;refine ⟨?_,?_,?_⟩
  ·intro y0 y1 y2
   unfold spec_l4signal.j0
   repeat' first
   | (with_reducible exact ih0 _ _ _)
   | (with_reducible exact ih1 _ _ _ _ _)
   | (with_reducible exact ih2 _ _ _ _ _ _ _)
   | (with_reducible exact spec_l4line.mono _ _ _ _ _ _)
   | (with_reducible exact spec_l4num.mono _ _)
   | (with_reducible exact spec_l4words.mono _ _)
   | (with_reducible exact LeO.refl _)
   | (with_reducible exact LeO.none _)
   | (with_reducible refine LeO.ite ?_ ?_)
   | (with_reducible refine LeO.bind ?_ (fun _=>?_))
   | exact ih0 _ _ _
   | exact ih1 _ _ _ _ _
   | exact ih2 _ _ _ _ _ _ _
   | exact spec_l4line.mono _ _ _ _ _ _
   | exact spec_l4num.mono _ _
   | exact spec_l4words.mono _ _
   | exact LeO.none _
   | refine LeO.ite ?_ ?_
   | refine LeO.bind ?_ (fun _=>?_)
  ·intro y0 y1 y2 y3 y4
   unfold spec_l4signal.j1
   repeat' first
   | (with_reducible exact ih0 _ _ _)
   | (with_reducible exact ih1 _ _ _ _ _)
   | (with_reducible exact ih2 _ _ _ _ _ _ _)
   | (with_reducible exact spec_l4line.mono _ _ _ _ _ _)
   | (with_reducible exact spec_l4num.mono _ _)
   | (with_reducible exact spec_l4words.mono _ _)
   | (with_reducible exact LeO.refl _)
   | (with_reducible exact LeO.none _)
   | (with_reducible refine LeO.ite ?_ ?_)
   | (with_reducible refine LeO.bind ?_ (fun _=>?_))
   | exact ih0 _ _ _
   | exact ih1 _ _ _ _ _
   | exact ih2 _ _ _ _ _ _ _
   | exact spec_l4line.mono _ _ _ _ _ _
   | exact spec_l4num.mono _ _
   | exact spec_l4words.mono _ _
   | exact LeO.none _
   | refine LeO.ite ?_ ?_
   | refine LeO.bind ?_ (fun _=>?_)
  ·intro y0 y1 y2 y3 y4 y5 y6
   unfold spec_l4signal.l0
   repeat' first
   | (with_reducible exact ih0 _ _ _)
   | (with_reducible exact ih1 _ _ _ _ _)
   | (with_reducible exact ih2 _ _ _ _ _ _ _)
   | (with_reducible exact spec_l4line.mono _ _ _ _ _ _)
   | (with_reducible exact spec_l4num.mono _ _)
   | (with_reducible exact spec_l4words.mono _ _)
   | (with_reducible exact LeO.refl _)
   | (with_reducible exact LeO.none _)
   | (with_reducible refine LeO.ite ?_ ?_)
   | (with_reducible refine LeO.bind ?_ (fun _=>?_))
   | exact ih0 _ _ _
   | exact ih1 _ _ _ _ _
   | exact ih2 _ _ _ _ _ _ _
   | exact spec_l4line.mono _ _ _ _ _ _
   | exact spec_l4num.mono _ _
   | exact spec_l4words.mono _ _
   | exact LeO.none _
   | refine LeO.ite ?_ ?_
   | refine LeO.bind ?_ (fun _=>?_)
theorem spec_l4signal.mono : ∀ a0 k,LeO (spec_l4signal.f k a0) (spec_l4signal.f (k + 1) a0):=by
 intro a0 k
 obtain ⟨ih0,ih1,ih2⟩:=spec_l4signal.mono_l k;unfold spec_l4signal.f
 repeat' first
   | (with_reducible exact ih0 _ _ _)
   | (with_reducible exact ih1 _ _ _ _ _)
   | (with_reducible exact ih2 _ _ _ _ _ _ _)
   | (with_reducible exact spec_l4line.mono _ _ _ _ _ _)
   | (with_reducible exact spec_l4num.mono _ _)
   | (with_reducible exact spec_l4words.mono _ _)
   | (with_reducible exact LeO.refl _)
   | (with_reducible exact LeO.none _)
   | (with_reducible refine LeO.ite ?_ ?_)
   | (with_reducible refine LeO.bind ?_ (fun _=>?_))
   | exact ih0 _ _ _
   | exact ih1 _ _ _ _ _
   | exact ih2 _ _ _ _ _ _ _
   | exact spec_l4line.mono _ _ _ _ _ _
   | exact spec_l4num.mono _ _
   | exact spec_l4words.mono _ _
   | exact LeO.none _
   | refine LeO.ite ?_ ?_
   | refine LeO.bind ?_ (fun _=>?_)
def spec_l4signal.T4 : Bool × List (List Nat × List Nat):=(true,[([],[]),([],[]),([],[]),([2],[2]),([3],[3]),([1,4],[1,4]),([5],[5]),([6],[6]),([7],[7]),([],[]),([9],[9]),([10],[10]),([11],[11]),([12],[12]),([0,8,13],[0,8,13]),([],[]),([15,14,7,0,1,2,3,4,5,6,7,8,9,10,11,12,13,14,15],[14,15])])
def spec_l4signal.B4 : List Nat:=[0,0,0,4,12,30,62,126,254,0,512,1536,3584,7680,16383,0,65535]
theorem spec_l4signal.tab4 : rtab .any (opsOf Try.f42 4) = spec_l4signal.T4:=by kernel_rfl
theorem spec_l4signal.bits4 : waitsOk spec_l4signal.T4.2 spec_l4signal.B4 = true:=by kernel_rfl
def spec_l4signal.T6 : Bool × List (List Nat × List Nat):=(true,[([],[]),([0],[0]),([],[]),([2],[2]),([3],[3]),([4],[4]),([1,0,1,2,3,4,5],[1]),([6,5,5,0,1,2,3,4,5],[5,6])])
def spec_l4signal.B6 : List Nat:=[0,1,0,4,12,28,63,127]
theorem spec_l4signal.tab6 : rtab .any (opsOf Try.f42 6) = spec_l4signal.T6:=by kernel_rfl
theorem spec_l4signal.bits6 : waitsOk spec_l4signal.T6.2 spec_l4signal.B6 = true:=by kernel_rfl
def spec_l4signal.T15 : Bool × List (List Nat × List Nat):=(true,[([],[]),([],[]),([1],[1]),([2],[2]),([3],[3]),([4],[4]),([5],[5]),([6],[6]),([7,6,6],[6,7]),([6],[6]),([8,9,6],[6,8,9]),([6,10],[6,10]),([0,8,0],[0]),([11,12,0,1,2,3,4,5,6,7,8,9,10,11,12],[11])])
def spec_l4signal.B15 : List Nat:=[0,0,2,6,14,30,62,126,254,126,1022,2046,511,8191]
theorem spec_l4signal.tab15 : rtab .any (opsOf Try.f42 15) = spec_l4signal.T15:=by kernel_rfl
theorem spec_l4signal.bits15 : waitsOk spec_l4signal.T15.2 spec_l4signal.B15 = true:=by kernel_rfl
end Go.Proofs.Ytpdcghclcgbcfab.X
