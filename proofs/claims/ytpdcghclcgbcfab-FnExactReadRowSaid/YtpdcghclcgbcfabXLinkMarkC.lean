/- How the law marks what was read, and looks at it again: numbers from one on, and which of them three divides. Over the printed functions. Conditions: lengths that stand in memory. -/
import Derived.Test.YtpdcghclcgbcfabXx19
import Derived.Test.YtpdcghclcgbcfabXx20
import Derived.Test.YtpdcghclcgbcfabXx18
import Derived.Test.YtpdcghclcgbcfabXLinkRead
namespace Go.Proofs.Ytpdcghclcgbcfab.LinkX
open Go.RowKit Go.Proofs.Ytpdcghclcgbcfab.X Go.Proofs.Ytpdcghclcgbcfab.Plain Go.Proofs.YtpdcghclcgbcfabW.PrintWords Go.Proofs.YtpdcghclcgbcfabW.PrintLast Go.Proofs.YtpdcghclcgbcfabW.PrintMore
set_option linter.unusedVariables false
set_option linter.unusedSimpArgs false
theorem getD_memb {α : Type} {l : List α} {i : Nat} (d : α) (h : i < l.length) : l.getD i d ∈ l := by
  rw [List.getD_eq_getElem?_getD, List.getElem?_eq_getElem h]
  exact List.getElem_mem _
theorem blend_nextA {α : Type} {n i : Nat} (hi : i < n) (f g : Nat → α) : (tab n (fun j => if j < i then f j else g j)).set i (f i) = tab n (fun j => if j < i + 1 then f j else g j) := by
  rw [tab_set]
  refine tab_congr fun j hj => ?_
  by_cases e : j = i
  · subst e; rw [if_pos rfl, if_pos (by omega)]
  · rw [if_neg e]
    by_cases c : j < i
    · rw [if_pos c, if_pos (by omega)]
    · rw [if_neg c, if_neg (by omega)]
theorem blend_0A {α : Type} (n : Nat) (f g : Nat → α) : tab n (fun j => if j < 0 then f j else g j) = tab n g := tab_congr fun j _ => if_neg (by omega)
theorem blend_nA {α : Type} (n : Nat) (f g : Nat → α) : tab n (fun j => if j < n then f j else g j) = tab n f := tab_congr fun j h => if_pos h
theorem eqInt_l0 (l : List Int) (h : l.length ≤ 1048576) : ∀ d i : Nat, i + d = l.length → Ev (fun k => laws_eqIntS.l0 k l l i) true := by
  intro d
  induction d with
  | zero =>
    intro i hi
    apply Ev.succ; simp only [laws_eqIntS.l0]
    exact Ev.neg (by omega) (Ev.ret rfl)
  | succ d ih =>
    intro i hi
    apply Ev.succ; simp only [laws_eqIntS.l0, if_true]
    rw [w64 (x := (i : Int) + 1) (by omega) (by omega)]
    exact Ev.pos (by omega) (Ev.pos (by omega) (Ev.pos (by omega) (ih (i + 1) (by omega))))
theorem eqInt_ev (l : List Int) (h : l.length ≤ 1048576) : Ev (fun k => laws_eqIntS.f k l l) true := by
  unfold laws_eqIntS.f
  exact Ev.pos rfl (eqInt_l0 l h l.length 0 (by omega))
theorem eqBool_l0 (l : List Bool) (h : l.length ≤ 1048576) : ∀ d i : Nat, i + d = l.length → Ev (fun k => laws_eqBoolS.l0 k l l i) true := by
  intro d
  induction d with
  | zero =>
    intro i hi
    apply Ev.succ; simp only [laws_eqBoolS.l0]
    exact Ev.neg (by omega) (Ev.ret rfl)
  | succ d ih =>
    intro i hi
    apply Ev.succ; simp only [laws_eqBoolS.l0]
    rw [w64 (x := (i : Int) + 1) (by omega) (by omega)]
    exact Ev.pos (by omega) (Ev.pos (by omega) (Ev.pos (by omega) (Ev.neg (by simp) (ih (i + 1) (by omega)))))
theorem eqBool_ev (l : List Bool) (h : l.length ≤ 1048576) : Ev (fun k => laws_eqBoolS.f k l l) true := by
  unfold laws_eqBoolS.f
  exact Ev.pos rfl (eqBool_l0 l h l.length 0 (by omega))
theorem eqBools_l0 (l : List (List Bool)) (h : l.length ≤ 1048576) (hx : ∀ x ∈ l, x.length ≤ 1048576) : ∀ d i : Nat, i + d = l.length → Ev (fun k => laws_eqBoolSS.l0 k l l i) true := by
  intro d
  induction d with
  | zero =>
    intro i hi
    apply Ev.succ; simp only [laws_eqBoolSS.l0]
    exact Ev.neg (by omega) (Ev.ret rfl)
  | succ d ih =>
    intro i hi
    apply Ev.succ; simp only [laws_eqBoolSS.l0]
    rw [rdL_nat, w64 (x := (i : Int) + 1) (by omega) (by omega)]
    exact Ev.pos (by omega) (Ev.pos (by omega) (Ev.pos (by omega) (Ev.bind (eqBool_ev _ (hx _ (getD_memb [] (show i < l.length by omega)))) (Ev.pos rfl (ih (i + 1) (by omega))))))
theorem eqBools_ev (l : List (List Bool)) (h : l.length ≤ 1048576) (hx : ∀ x ∈ l, x.length ≤ 1048576) : Ev (fun k => laws_eqBoolSS.f k l l) true := by
  unfold laws_eqBoolSS.f
  exact Ev.pos rfl (eqBools_l0 l h hx l.length 0 (by omega))
theorem markInt_l0 (l : List Int) (a : Int) (h : l.length ≤ 1048576) (a0 : 0 ≤ a) (a1 : a ≤ 4398046511104) : ∀ d i : Nat, i + d = l.length → Ev (fun k => laws_markIntS.l0 k (tab l.length (fun j => if j < i then a + (j : Int) else l.getD j 0)) (a + i) i) (a + l.length, tab l.length (fun j => a + (j : Int))) := by
  intro d
  induction d with
  | zero =>
    intro i hi
    obtain rfl : i = l.length := by omega
    apply Ev.succ; simp only [laws_markIntS.l0]
    rw [tab_length]
    refine Ev.neg (by omega) (Ev.ret ?_)
    rw [blend_nA l.length (fun j => a + (j : Int)) (fun j => l.getD j 0)]
  | succ d ih =>
    intro i hi
    have hlt : i < l.length := by omega
    apply Ev.succ; simp only [laws_markIntS.l0]
    have e := ih (i + 1) (by omega)
    rw [← blend_nextA hlt (fun j => a + (j : Int)) (fun j => l.getD j 0), show a + ((i + 1 : Nat) : Int) = a + i + 1 by omega, show ((i + 1 : Nat) : Int) = (i : Int) + 1 by omega] at e
    rw [tab_length, w64 (x := a + i + 1) (by omega) (by omega), w64 (x := (i : Int) + 1) (by omega) (by omega), Int.toNat_natCast]
    exact Ev.pos (by omega) (Ev.pos (by omega) e)
theorem markInt_ev (l : List Int) (a : Int) (h : l.length ≤ 1048576) (a0 : 0 ≤ a) (a1 : a ≤ 4398046511104) : Ev (fun k => laws_markIntS.f k l a) (a + l.length, tab l.length (fun j => a + (j : Int))) := by
  unfold laws_markIntS.f
  have e := markInt_l0 l a h a0 a1 l.length 0 (by omega)
  rw [blend_0A l.length (fun j => a + (j : Int)) (fun j => l.getD j 0), show a + ((0 : Nat) : Int) = a by omega, ← tab_self l 0] at e
  exact e
theorem heldInt_l0 (n : Nat) (a : Int) (h : n ≤ 1048576) (a0 : 0 ≤ a) (a1 : a ≤ 4398046511104) : ∀ d i : Nat, i + d = n → Ev (fun k => laws_heldIntS.l0 k (tab n (fun j => a + (j : Int))) (a + i) i) (a + n) := by
  intro d
  induction d with
  | zero =>
    intro i hi
    obtain rfl : i = n := by omega
    apply Ev.succ; simp only [laws_heldIntS.l0]
    rw [tab_length]
    exact Ev.neg (by omega) (Ev.ret rfl)
  | succ d ih =>
    intro i hi
    have hlt : i < n := by omega
    apply Ev.succ; simp only [laws_heldIntS.l0]
    have e := ih (i + 1) (by omega)
    rw [show a + ((i + 1 : Nat) : Int) = a + i + 1 by omega, show ((i + 1 : Nat) : Int) = (i : Int) + 1 by omega] at e
    rw [tab_length, rd_tab _ hlt, w64 (x := a + i + 1) (by omega) (by omega), w64 (x := (i : Int) + 1) (by omega) (by omega)]
    exact Ev.pos (by omega) (Ev.pos (by omega) (Ev.pos rfl e))
theorem heldInt_ev (n : Nat) (a : Int) (h : n ≤ 1048576) (a0 : 0 ≤ a) (a1 : a ≤ 4398046511104) : Ev (fun k => laws_heldIntS.f k (tab n (fun j => a + (j : Int))) a) (a + n) := by
  unfold laws_heldIntS.f
  have e := heldInt_l0 n a h a0 a1 n 0 (by omega)
  rw [show a + ((0 : Nat) : Int) = a by omega] at e
  exact e
abbrev thr (a : Int) : Nat → Bool := fun j => (Int.tmod (a + (j : Int)) 3 == 0)
theorem rdOf_tab {n : Nat} (f : Nat → Bool) {i : Nat} (h : i < n) : rdOf false (tab n f) (i : Int) = f i := by rw [rdOf_nat, tab_getD _ _ h]
theorem markBool_l0 (l : List Bool) (a : Int) (h : l.length ≤ 1048576) (a0 : 0 ≤ a) (a1 : a ≤ 4398046511104) : ∀ d i : Nat, i + d = l.length → Ev (fun k => laws_markBoolS.l0 k (tab l.length (fun j => if j < i then thr a j else l.getD j false)) (a + i) i) (a + l.length, tab l.length (thr a)) := by
  intro d
  induction d with
  | zero =>
    intro i hi
    obtain rfl : i = l.length := by omega
    apply Ev.succ; simp only [laws_markBoolS.l0]
    rw [tab_length]
    refine Ev.neg (by omega) (Ev.ret ?_)
    rw [blend_nA l.length (thr a) (fun j => l.getD j false)]
  | succ d ih =>
    intro i hi
    have hlt : i < l.length := by omega
    apply Ev.succ; simp only [laws_markBoolS.l0]
    have e := ih (i + 1) (by omega)
    rw [← blend_nextA hlt (thr a) (fun j => l.getD j false), show a + ((i + 1 : Nat) : Int) = a + i + 1 by omega, show ((i + 1 : Nat) : Int) = (i : Int) + 1 by omega] at e
    rw [tab_length, w64 (x := a + i + 1) (by omega) (by omega), w64 (x := (i : Int) + 1) (by omega) (by omega), Int.toNat_natCast]
    exact Ev.pos (by omega) (Ev.pos (by omega) e)
theorem markBool_ev (l : List Bool) (a : Int) (h : l.length ≤ 1048576) (a0 : 0 ≤ a) (a1 : a ≤ 4398046511104) : Ev (fun k => laws_markBoolS.f k l a) (a + l.length, tab l.length (thr a)) := by
  unfold laws_markBoolS.f
  have e := markBool_l0 l a h a0 a1 l.length 0 (by omega)
  rw [blend_0A l.length (thr a) (fun j => l.getD j false), show a + ((0 : Nat) : Int) = a by omega, ← tab_self l false] at e
  exact e
theorem heldBool_l0 (n : Nat) (a : Int) (h : n ≤ 1048576) (a0 : 0 ≤ a) (a1 : a ≤ 4398046511104) : ∀ d i : Nat, i + d = n → Ev (fun k => laws_heldBoolS.l0 k (tab n (thr a)) (a + i) i) (a + n) := by
  intro d
  induction d with
  | zero =>
    intro i hi
    obtain rfl : i = n := by omega
    apply Ev.succ; simp only [laws_heldBoolS.l0]
    rw [tab_length]
    exact Ev.neg (by omega) (Ev.ret rfl)
  | succ d ih =>
    intro i hi
    have hlt : i < n := by omega
    apply Ev.succ; simp only [laws_heldBoolS.l0]
    have e := ih (i + 1) (by omega)
    rw [show a + ((i + 1 : Nat) : Int) = a + i + 1 by omega, show ((i + 1 : Nat) : Int) = (i : Int) + 1 by omega] at e
    rw [tab_length, rdOf_tab _ hlt, w64 (x := a + i + 1) (by omega) (by omega), w64 (x := (i : Int) + 1) (by omega) (by omega)]
    exact Ev.pos (by omega) (Ev.pos (by omega) (Ev.neg (by simp) e))
theorem heldBool_ev (n : Nat) (a : Int) (h : n ≤ 1048576) (a0 : 0 ≤ a) (a1 : a ≤ 4398046511104) : Ev (fun k => laws_heldBoolS.f k (tab n (thr a)) a) (a + n) := by
  unfold laws_heldBoolS.f
  have e := heldBool_l0 n a h a0 a1 n 0 (by omega)
  rw [show a + ((0 : Nat) : Int) = a by omega] at e
  exact e
def mks : List (List Bool) → Int → List (List Bool)
  | [], _ => []
  | x :: t, a => tab x.length (thr a) :: mks t (a + x.length)
def tot : List (List Bool) → Int → Int
  | [], a => a
  | x :: t, a => tot t (a + x.length)
theorem mks_len : ∀ (l : List (List Bool)) (a : Int), (mks l a).length = l.length
  | [], _ => rfl
  | x :: t, a => by show (mks t _).length + 1 = t.length + 1; rw [mks_len t]
theorem tot_ge : ∀ (l : List (List Bool)) (a : Int), a ≤ tot l a
  | [], a => Int.le_refl _
  | x :: t, a => by
    have := tot_ge t (a + x.length)
    show a ≤ tot t (a + x.length)
    omega
theorem rd_mid (p : List (List Bool)) (x : List Bool) (t : List (List Bool)) : rd_L1 (p ++ x :: t) (p.length : Int) = x := by
  rw [rdL_nat, List.getD_eq_getElem?_getD, List.getElem?_append_right (Nat.le_refl _), Nat.sub_self]; rfl
theorem markBools_l0 : ∀ (rem done : List (List Bool)) (a : Int), done.length + rem.length ≤ 10000 → (∀ x ∈ rem, x.length ≤ 10000) → 0 ≤ a → a ≤ 4194304 + (done.length : Int) * 10000 →
    Ev (fun k => laws_markBoolSS.l0 k (done ++ rem) a done.length) (tot rem a, done ++ mks rem a) := by
  intro rem
  induction rem with
  | nil =>
    intro done a hl hx a0 a1
    rw [List.append_nil]
    apply Ev.succ; simp only [laws_markBoolSS.l0]
    refine Ev.neg (by omega) (Ev.ret ?_)
    show (a, done) = (a, done ++ [])
    rw [List.append_nil]
  | cons x t ih0 =>
    intro done a hl hx a0 a1
    rw [List.length_cons] at hl
    have hx0 := hx x (by simp)
    apply Ev.succ; simp only [laws_markBoolSS.l0]
    rw [rd_mid]
    refine Ev.pos (by rw [List.length_append, List.length_cons]; omega) (Ev.pos (by omega) (Ev.bind (markBool_ev x a (by omega) a0 (by omega)) ?_))
    rw [Int.toNat_natCast, List.set_append_right _ _ (Nat.le_refl _), Nat.sub_self, w64 (x := (done.length : Int) + 1) (by omega) (by omega)]
    have ih := ih0 (done ++ [tab x.length (thr a)]) (a + x.length) (by rw [List.length_append]; simp only [List.length_cons, List.length_nil]; omega) (fun y hy => hx y (by simp [hy])) (by omega) (by rw [List.length_append]; simp only [List.length_cons, List.length_nil]; omega)
    rw [List.append_assoc, List.append_assoc, show ((done ++ [tab x.length (thr a)]).length : Int) = (done.length : Int) + 1 by rw [List.length_append]; simp] at ih
    exact ih
theorem heldBools_l0 : ∀ (rem done : List (List Bool)) (a : Int), done.length + rem.length ≤ 10000 → (∀ x ∈ rem, x.length ≤ 10000) → 0 ≤ a → a ≤ 4194304 + (done.length : Int) * 10000 →
    Ev (fun k => laws_heldBoolSS.l0 k (done ++ mks rem a) a done.length) (tot rem a) := by
  intro rem
  induction rem with
  | nil =>
    intro done a hl hx a0 a1
    show Ev (fun k => laws_heldBoolSS.l0 k (done ++ []) a done.length) a
    rw [List.append_nil]
    apply Ev.succ; simp only [laws_heldBoolSS.l0]
    exact Ev.neg (by omega) (Ev.ret rfl)
  | cons x t ih0 =>
    intro done a hl hx a0 a1
    rw [List.length_cons] at hl
    have hx0 := hx x (by simp)
    show Ev (fun k => laws_heldBoolSS.l0 k (done ++ tab x.length (thr a) :: mks t (a + x.length)) a done.length) (tot t (a + x.length))
    apply Ev.succ; simp only [laws_heldBoolSS.l0]
    rw [rd_mid]
    refine Ev.pos (by rw [List.length_append, List.length_cons]; omega) (Ev.pos (by omega) (Ev.bind (heldBool_ev x.length a (by omega) a0 (by omega)) (Ev.neg (by omega) ?_)))
    rw [w64 (x := (done.length : Int) + 1) (by omega) (by omega)]
    have ih := ih0 (done ++ [tab x.length (thr a)]) (a + x.length) (by rw [List.length_append]; simp only [List.length_cons, List.length_nil]; omega) (fun y hy => hx y (by simp [hy])) (by omega) (by rw [List.length_append]; simp only [List.length_cons, List.length_nil]; omega)
    rw [List.append_assoc, show ((done ++ [tab x.length (thr a)]).length : Int) = (done.length : Int) + 1 by rw [List.length_append]; simp] at ih
    exact ih
theorem told_ev (c ln : Int) {q0 q1 : List Int} {q2 : List Bool} {q3 : List (List Bool)} (s : Sm q0 q1 q2 q3) : ∃ m p0 p1 p2 p3, Ev (fun k => laws_markTold.f k c ln q0 q1 q2 q3 1) (m, p0, p1, p2, p3) ∧ Ev (fun k => laws_heldTold.f k c ln p0 p1 p2 p3 1) m ∧ 0 ≤ m := by
  have h0 := s.a; have h1 := s.b; have h2 := s.c; have h3 := s.d
  have g1 : (0 : Int) ≤ 1 + q0.length := by omega
  have t := tot_ge q3 (1 + q0.length + q1.length + q2.length)
  refine ⟨tot q3 (1 + q0.length + q1.length + q2.length), tab q0.length (fun j => 1 + (j : Int)), tab q1.length (fun j => 1 + (q0.length : Int) + (j : Int)), tab q2.length (thr (1 + q0.length + q1.length)), mks q3 (1 + q0.length + q1.length + q2.length), ?_, ?_, by omega⟩
  · unfold laws_markTold.f laws_markRow.f
    refine Ev.bind (markInt_ev q0 1 (by omega) (by omega) (by omega)) (Ev.bind (markInt_ev q1 (1 + q0.length) (by omega) (by omega) (by omega)) (Ev.bind (markBool_ev q2 (1 + q0.length + q1.length) (by omega) (by omega) (by omega)) (Ev.bind (a := (tot q3 (1 + q0.length + q1.length + q2.length), mks q3 (1 + q0.length + q1.length + q2.length))) ?_ (Ev.ret rfl))))
    unfold laws_markBoolSS.f
    exact markBools_l0 q3 [] _ (by simp; omega) s.e (by omega) (by simp; omega)
  · unfold laws_heldTold.f laws_heldRow.f
    refine Ev.bind (a := tot q3 (1 + q0.length + q1.length + q2.length)) (Ev.bind (heldInt_ev q0.length 1 (by omega) (by omega) (by omega)) (Ev.neg (by omega) (Ev.bind (heldInt_ev q1.length (1 + q0.length) (by omega) (by omega) (by omega)) (Ev.neg (by omega) (Ev.bind (heldBool_ev q2.length (1 + q0.length + q1.length) (by omega) (by omega) (by omega)) (Ev.neg (by omega) (Ev.bind (a := tot q3 (1 + q0.length + q1.length + q2.length)) ?_ (Ev.neg (by omega) (Ev.ret rfl))))))))) (Ev.neg (by omega) (Ev.ret rfl))
    unfold laws_heldBoolSS.f
    exact heldBools_l0 q3 [] _ (by simp; omega) s.e (by omega) (by simp; omega)
theorem eqTold_ev (c ln : Int) {q0 q1 : List Int} {q2 : List Bool} {q3 : List (List Bool)} (s : Sm q0 q1 q2 q3) : Ev (fun k => laws_eqTold.f k c ln q0 q1 q2 q3 c ln q0 q1 q2 q3) true := by
  have h0 := s.a; have h1 := s.b; have h2 := s.c; have h3 := s.d
  unfold laws_eqTold.f laws_eqRow.f
  exact Ev.pos rfl (Ev.pos rfl (Ev.bind (Ev.bind (eqInt_ev q0 (by omega)) (Ev.pos rfl (Ev.bind (eqInt_ev q1 (by omega)) (Ev.pos rfl (Ev.bind (eqBool_ev q2 (by omega)) (Ev.pos rfl (Ev.bind (eqBools_ev q3 (by omega) (fun x hx => Nat.le_trans (s.e x hx) (by omega))) (Ev.pos rfl (Ev.ret rfl))))))))) (Ev.pos rfl (Ev.ret rfl))))
end Go.Proofs.Ytpdcghclcgbcfab.LinkX
