/- What the program makes of a line: it takes just the lines that are written as a signal is, and appends what was written. Conditions: a line of at most 10000 bytes, rows of at most 10000. -/
import Derived.Test.YtpdcghclcgbcfabXx16
import Derived.Test.YtpdcghclcgbcfabXLinkText
namespace Go.Proofs.Ytpdcghclcgbcfab.LinkX
open Go.RowKit Go.Proofs.Ytpdcghclcgbcfab.X Go.Proofs.Ytpdcghclcgbcfab.Plain Go.Proofs.YtpdcghclcgbcfabW.PrintWords Go.Proofs.YtpdcghclcgbcfabW.PrintLast Go.Proofs.YtpdcghclcgbcfabW.PrintMore
set_option linter.unusedVariables false
set_option linter.unusedSimpArgs false
structure GoodN (nx fa : Int) : Prop where
  n0 : -1 ≤ nx
  n1 : nx < 100000000
  f0 : 0 ≤ fa
  f1 : fa < 100000000
section
variable {r0 r1 : List Int} {r2 : List Bool} {r3 : List (List Bool)}
abbrev Res : Type := List Int × List Int × List Bool × (List (List Bool)) × Bool
theorem tail_end (fa : Int) : tailF (-1) fa = (sEnd ++ sFar) ++ dec fa.toNat := by
  unfold tailF; rw [if_neg (by decide)]
theorem tail_next {nx : Int} (h : 0 ≤ nx) (fa : Int) : tailF nx fa = sNext ++ (dec nx.toNat ++ (sFar ++ dec fa.toNat)) := by
  unfold tailF; rw [if_pos h]; simp
theorem end_ne_next (a b : List UInt8) : (sEnd ++ sFar) ++ a ≠ sNext ++ b := by
  intro e
  have := congrArg (fun l : List UInt8 => l.getD 1 0) e
  exact absurd this (by simp)
theorem write_ok (s0 : r0.length ≤ 10000) (s1 : r1.length ≤ 10000) (s2 : r2.length ≤ 10000) (s3 : r3.length ≤ 10000) {α : Type} (x : α) (e : Res) :
    (if r2.length < 140737488355328 then (if r3.length < 5864062014805 then (if r0.length < 17592186044416 then (if r1.length < 17592186044416 then some e else none) else none) else none) else none) = some e := by
  rw [if_pos (by omega), if_pos (by omega), if_pos (by omega), if_pos (by omega)]
theorem line_tail {full : List UInt8} (h4 : 4 ≤ full.length) (hl : full.length ≤ 10000) (s0 : r0.length ≤ 10000) (s1 : r1.length ≤ 10000) (s2 : r2.length ≤ 10000) (s3 : r3.length ≤ 10000) (op : Bool) (wk : List Bool) :
    (∃ nx fa, GoodN nx fa ∧ full.drop 4 = tailF nx fa ∧ Ev (fun k => impl_line.l0 k (B full) op wk 4 r0 r1 r2 r3) (r0 ++ [nx], r1 ++ [fa], r2 ++ [op], r3 ++ [wk], true)) ∨
    ((∀ nx fa, GoodN nx fa → full.drop 4 ≠ tailF nx fa) ∧ Ev (fun k => impl_line.l0 k (B full) op wk 4 r0 r1 r2 r3) (r0, r1, r2, r3, false)) := by
  have start : ∀ (r : Res), Ev (fun k => (strings_CutPrefix.f (B (full.drop 4)) (B (sEnd ++ sFar))).bind fun bt => (if bt.2 = true then ((impl_number.f k bt.1).bind fun b => (if b.2 = true then (if r2.length < 140737488355328 then (if r3.length < 5864062014805 then (if r0.length < 17592186044416 then (if r1.length < 17592186044416 then (some ((r0 ++ [(-1)]), (r1 ++ [b.1]), (r2 ++ [op]), (r3 ++ [wk]), true)) else (none)) else (none)) else (none)) else (none)) else (some (r0, r1, r2, r3, false)))) else ((strings_CutPrefix.f (B (full.drop 4)) (B sNext)).bind fun b => (if b.2 = true then ((strings_Cut.f b.1 (B sFar)).bind fun c => ((impl_number.f k c.1).bind fun d => (if c.2.2 = true then (impl_line.j2 k op wk c.2.1 d.1 (!d.2) r0 r1 r2 r3) else (impl_line.j2 k op wk c.2.1 d.1 true r0 r1 r2 r3)))) else (some (r0, r1, r2, r3, false)))))) r → Ev (fun k => impl_line.l0 k (B full) op wk 4 r0 r1 r2 r3) r := by
    intro r h
    apply Ev.succ; simp only [impl_line.l0]
    refine Ev.neg (by omega) (Ev.pos (by rw [B_size]; omega) ?_)
    rw [show (B full).extract 4 (B full).size = B (full.drop 4) by rw [B_size, B_extract, List.take_of_length_le (by rw [List.length_drop]; exact Nat.le_refl _)]]
    exact h
  have hdl : (full.drop 4).length ≤ 10000 := by rw [List.length_drop]; omega
  generalize full.drop 4 = t at start hdl ⊢
  rcases cutp_split t (sEnd ++ sFar) with ⟨u, rfl, e1⟩ | ⟨n1, e1⟩
  · obtain ⟨r, b, h1, h2, h3⟩ := number_total u
    cases b
    · refine .inr ⟨fun nx fa g e => ?_, start _ (Ev.bindc e1 (Ev.pos rfl (Ev.bind h1 (Ev.neg (by simp) (Ev.ret rfl)))))⟩
      by_cases c : 0 ≤ nx
      · rw [tail_next c] at e
        exact end_ne_next _ _ e
      · obtain rfl : nx = -1 := by have := g.n0; omega
        rw [tail_end] at e
        have e2 := List.append_cancel_left e
        have g1 := g.f0; have g2 := g.f1
        have := (h3 (e2 ▸ dec_plain (by omega))).2
        cases this
    · obtain ⟨n, hn, rfl, rfl⟩ := h2 rfl
      refine .inl ⟨-1, n, ⟨by omega, by omega, by omega, by omega⟩, by rw [tail_end]; rfl, start _ (Ev.bindc e1 (Ev.pos rfl (Ev.bind h1 (Ev.pos rfl ?_))))⟩
      exact Ev.pos (by omega) (Ev.pos (by omega) (Ev.pos (by omega) (Ev.pos (by omega) (Ev.ret rfl))))
  · rcases cutp_split t sNext with ⟨u, rfl, e2⟩ | ⟨n2, e2⟩
    · have hu : u.length ≤ 10000 := by rw [List.length_append] at hdl; omega
      have go : ∀ (r : Res), Ev (fun k => (impl_number.f k (B (Lib.cut u sFar).1)).bind fun d => (if (Lib.cut u sFar).2.2 = true then (impl_line.j2 k op wk (B (Lib.cut u sFar).2.1) d.1 (!d.2) r0 r1 r2 r3) else (impl_line.j2 k op wk (B (Lib.cut u sFar).2.1) d.1 true r0 r1 r2 r3))) r → Ev (fun k => impl_line.l0 k (B full) op wk 4 r0 r1 r2 r3) r := fun r h =>
        start r (Ev.bindc e1 (Ev.neg (by simp) (Ev.bindc e2 (Ev.pos rfl (Ev.bindc (cut_f u sFar hu) h)))))
      have form : ∀ nx fa, GoodN nx fa → sNext ++ u = tailF nx fa → 0 ≤ nx ∧ Lib.cut u sFar = (dec nx.toNat, dec fa.toNat, true) := by
        intro nx fa g e
        by_cases c : 0 ≤ nx
        · rw [tail_next c] at e
          rw [List.append_cancel_left e]
          exact ⟨c, cut_hit _ (dec_ne _)⟩
        · obtain rfl : nx = -1 := by have := g.n0; omega
          rw [tail_end] at e
          exact absurd e.symm (end_ne_next _ _)
      have off : ∀ x y, Ev (fun k => impl_line.j2 k op wk x y true r0 r1 r2 r3) (r0, r1, r2, r3, false) := by
        intro x y
        apply Ev.succ; simp only [impl_line.j2]
        exact Ev.pos trivial (Ev.ret rfl)
      obtain ⟨r, b, h1, h2, h3⟩ := number_total (Lib.cut u sFar).1
      by_cases ck : (Lib.cut u sFar).2.2 = true
      · have eu := cut_ok ck
        cases b
        · refine .inr ⟨fun nx fa g e => ?_, go _ (Ev.bind h1 (Ev.pos ck (off _ _)))⟩
          obtain ⟨c, f⟩ := form nx fa g e
          rw [f] at h3
          have g1 := g.n1
          have := (h3 (dec_plain (by omega))).2
          cases this
        · obtain ⟨n, hn, en, rfl⟩ := h2 rfl
          obtain ⟨s, b2, q1, q2, q3⟩ := number_total (Lib.cut u sFar).2.1
          have j2 : ∀ (rr : Res), Ev (fun k => (impl_number.f k (B (Lib.cut u sFar).2.1)).bind fun bt => (if bt.2 = true then (if r2.length < 140737488355328 then (if r3.length < 5864062014805 then (if r0.length < 17592186044416 then (if r1.length < 17592186044416 then (some ((r0 ++ [(n : Int)]), (r1 ++ [bt.1]), (r2 ++ [op]), (r3 ++ [wk]), true)) else (none)) else (none)) else (none)) else (none)) else (some (r0, r1, r2, r3, false)))) rr → Ev (fun k => impl_line.l0 k (B full) op wk 4 r0 r1 r2 r3) rr := fun rr h =>
            go rr (Ev.bind h1 (Ev.pos ck (by apply Ev.succ; simp only [impl_line.j2]; exact Ev.neg (by simp) h)))
          cases b2
          · refine .inr ⟨fun nx fa g e => ?_, j2 _ (Ev.bind q1 (Ev.neg (by simp) (Ev.ret rfl)))⟩
            obtain ⟨c, f⟩ := form nx fa g e
            rw [f] at q3
            have g1 := g.f0; have g2 := g.f1
            have := (q3 (dec_plain (by omega))).2
            cases this
          · obtain ⟨m, hm, em, rfl⟩ := q2 rfl
            refine .inl ⟨n, m, ⟨by omega, by omega, by omega, by omega⟩, ?_, j2 _ (Ev.bind q1 (Ev.pos rfl (Ev.pos (by omega) (Ev.pos (by omega) (Ev.pos (by omega) (Ev.pos (by omega) (Ev.ret rfl)))))))⟩
            rw [tail_next (by omega), Int.toNat_natCast, Int.toNat_natCast, ← en, ← em, ← eu]
      · refine .inr ⟨fun nx fa g e => ?_, go _ (Ev.bind h1 (Ev.neg ck (off _ _)))⟩
        obtain ⟨c, f⟩ := form nx fa g e
        rw [f] at ck
        exact ck rfl
    · refine .inr ⟨fun nx fa g e => ?_, start _ (Ev.bindc e1 (Ev.neg (by simp) (Ev.bindc e2 (Ev.neg (by simp) (Ev.ret rfl)))))⟩
      by_cases c : 0 ≤ nx
      · rw [tail_next c] at e
        exact n2 _ e
      · obtain rfl : nx = -1 := by have := g.n0; omega
        rw [tail_end] at e
        exact n1 _ e
theorem chr_eq {c : UInt8} {i : Nat} (h : i < 4) : ((c.toNat : Int) = (48 + ((i : Int) % 256)) % 256) ↔ c = chr i := by
  constructor
  · intro e
    apply UInt8.toNat_inj.1
    rw [chr_nat]; omega
  · intro e
    rw [e, chr_nat]; omega
theorem line_loop {full : List UInt8} (h4 : 4 ≤ full.length) (op : Bool) : ∀ (d i : Nat) (ws : List Bool), i + d = 4 → ws.length = i →
    (∃ w2 : List Bool, w2.length = d ∧ (full.drop i).take d = lampsF i w2 ∧ ∀ r, Ev (fun k => impl_line.l0 k (B full) op (ws ++ w2) 4 r0 r1 r2 r3) r → Ev (fun k => impl_line.l0 k (B full) op (ws ++ List.replicate d false) i r0 r1 r2 r3) r) ∨
    ((∀ w2 : List Bool, w2.length = d → (full.drop i).take d ≠ lampsF i w2) ∧ Ev (fun k => impl_line.l0 k (B full) op (ws ++ List.replicate d false) i r0 r1 r2 r3) (r0, r1, r2, r3, false))
  | 0, i, ws, hi, hw => by
    obtain rfl : i = 4 := by omega
    exact .inl ⟨[], rfl, rfl, fun r h => h⟩
  | d + 1, i, ws, hi, hw => by
    have hlt : i < full.length := by omega
    have ed : (full.drop i).take (d + 1) = full.getD i 0 :: (full.drop (i + 1)).take d := by rw [drop_one hlt]; rfl
    have start : ∀ (g : Nat → Option Res) (r : Res), (∀ k, impl_line.l0 (k + 1) (B full) op (ws ++ List.replicate (d + 1) false) i r0 r1 r2 r3 = g k) → Ev g r → Ev (fun k => impl_line.l0 k (B full) op (ws ++ List.replicate (d + 1) false) i r0 r1 r2 r3) r := fun g r h e => Ev.step h e
    have body : ∀ k, impl_line.l0 (k + 1) (B full) op (ws ++ List.replicate (d + 1) false) i r0 r1 r2 r3 = (if (((full.getD i 0).toNat : Nat) : Int) = ((48 + ((i : Int) % 256)) % 256) then (impl_line.l0 k (B full) op ((ws ++ List.replicate (d + 1) false).set i true) ((i + 1 : Nat) : Int) r0 r1 r2 r3) else (if (((full.getD i 0).toNat : Nat) : Int) = 45 then (impl_line.l0 k (B full) op (ws ++ List.replicate (d + 1) false) ((i + 1 : Nat) : Int) r0 r1 r2 r3) else (some (r0, r1, r2, r3, false)))) := by
      intro k
      simp only [impl_line.l0]
      rw [if_pos (by omega), if_pos (by omega), if_pos (by rw [B_size]; omega), bt_B hlt, w64 (x := (i : Int) + 1) (by omega) (by omega), if_pos (show (i : Int) < ((ws ++ List.replicate (d + 1) false).length : Int) by rw [List.length_append, List.length_replicate]; omega), Int.toNat_natCast]
      rfl
    by_cases c1 : (((full.getD i 0).toNat : Nat) : Int) = ((48 + ((i : Int) % 256)) % 256)
    · have ec := (chr_eq (by omega)).1 c1
      have es : (ws ++ List.replicate (d + 1) false).set i true = (ws ++ [true]) ++ List.replicate d false := by
        rw [List.set_append_right _ _ (by omega), hw, Nat.sub_self, List.append_assoc]; rfl
      have bo : ∀ k, impl_line.l0 (k + 1) (B full) op (ws ++ List.replicate (d + 1) false) i r0 r1 r2 r3 = impl_line.l0 k (B full) op ((ws ++ [true]) ++ List.replicate d false) ((i + 1 : Nat) : Int) r0 r1 r2 r3 := fun k => by rw [body, if_pos c1, es]
      rcases line_loop h4 op d (i + 1) (ws ++ [true]) (by omega) (by rw [List.length_append]; simp only [List.length_cons, List.length_nil]; omega) with ⟨w2, e1, e2, e3⟩ | ⟨n1, e1⟩
      · refine .inl ⟨true :: w2, by rw [List.length_cons, e1], ?_, fun r h => start _ r bo (e3 r ?_)⟩
        · rw [ed, e2, ec]; rfl
        · rw [List.append_assoc]; exact h
      · refine .inr ⟨fun w2 hw2 e => ?_, start _ _ bo e1⟩
        cases w2 with
        | nil => simp at hw2
        | cons b w3 =>
          rw [ed] at e
          exact n1 w3 (by simpa using hw2) (List.cons.inj e).2
    · by_cases c2 : (((full.getD i 0).toNat : Nat) : Int) = 45
      · have ec : full.getD i 0 = 45 := UInt8.toNat_inj.1 (by show (full.getD i 0).toNat = 45; omega)
        have bo : ∀ k, impl_line.l0 (k + 1) (B full) op (ws ++ List.replicate (d + 1) false) i r0 r1 r2 r3 = impl_line.l0 k (B full) op ((ws ++ [false]) ++ List.replicate d false) ((i + 1 : Nat) : Int) r0 r1 r2 r3 := fun k => by
          rw [body, if_neg c1, if_pos c2, List.append_assoc]; rfl
        rcases line_loop h4 op d (i + 1) (ws ++ [false]) (by omega) (by rw [List.length_append]; simp only [List.length_cons, List.length_nil]; omega) with ⟨w2, e1, e2, e3⟩ | ⟨n1, e1⟩
        · refine .inl ⟨false :: w2, by rw [List.length_cons, e1], ?_, fun r h => start _ r bo (e3 r ?_)⟩
          · rw [ed, e2, ec]; rfl
          · rw [List.append_assoc]; exact h
        · refine .inr ⟨fun w2 hw2 e => ?_, start _ _ bo e1⟩
          cases w2 with
          | nil => simp at hw2
          | cons b w3 =>
            rw [ed] at e
            exact n1 w3 (by simpa using hw2) (List.cons.inj e).2
      · refine .inr ⟨fun w2 hw2 e => ?_, start (fun _ => some (r0, r1, r2, r3, false)) _ (fun k => by rw [body, if_neg c1, if_neg c2]) (Ev.now _)⟩
        cases w2 with
        | nil => simp at hw2
        | cons b w3 =>
          rw [ed] at e
          have e0 : full.getD i 0 = lc i b := (List.cons.inj e).1
          cases b
          · exact c2 (by rw [e0]; rfl)
          · exact c1 ((chr_eq (by omega)).2 e0)
theorem line_j0 {rest : List UInt8} (hl : rest.length ≤ 10000) (s0 : r0.length ≤ 10000) (s1 : r1.length ≤ 10000) (s2 : r2.length ≤ 10000) (s3 : r3.length ≤ 10000) (op : Bool) :
    (∃ w nx fa, GoodL w nx fa ∧ rest = lampsF 0 w ++ tailF nx fa ∧ Ev (fun k => impl_line.j0 k (B rest) op r0 r1 r2 r3) (r0 ++ [nx], r1 ++ [fa], r2 ++ [op], r3 ++ [w], true)) ∨
    ((∀ w nx fa, GoodL w nx fa → rest ≠ lampsF 0 w ++ tailF nx fa) ∧ Ev (fun k => impl_line.j0 k (B rest) op r0 r1 r2 r3) (r0, r1, r2, r3, false)) := by
  by_cases c : rest.length < 4
  · refine .inr ⟨fun w nx fa g e => ?_, ?_⟩
    · have := congrArg List.length e
      rw [List.length_append, lampsF_len, g.w4] at this
      omega
    · apply Ev.succ; simp only [impl_line.j0]
      exact Ev.pos (by rw [B_size]; omega) (Ev.ret rfl)
  · have start : ∀ r : Res, Ev (fun k => impl_line.l0 k (B rest) op (([] : List Bool) ++ List.replicate 4 false) 0 r0 r1 r2 r3) r → Ev (fun k => impl_line.j0 k (B rest) op r0 r1 r2 r3) r := by
      intro r h
      apply Ev.succ; simp only [impl_line.j0]
      exact Ev.neg (by rw [B_size]; omega) (Ev.pos (by omega) h)
    have cut4 : ∀ w nx fa, GoodL w nx fa → rest = lampsF 0 w ++ tailF nx fa → rest.take 4 = lampsF 0 w ∧ rest.drop 4 = tailF nx fa := by
      intro w nx fa g e
      have h := lampsF_len 0 w
      rw [g.w4] at h
      rw [e, ← h]
      exact ⟨List.take_left, List.drop_left⟩
    rcases line_loop (r0 := r0) (r1 := r1) (r2 := r2) (r3 := r3) (full := rest) (by omega) op 4 0 [] (by omega) rfl with ⟨w2, e1, e2, e3⟩ | ⟨n1, e1⟩
    · rcases line_tail (full := rest) (by omega) hl s0 s1 s2 s3 op w2 with ⟨nx, fa, g, t1, t2⟩ | ⟨n2, t2⟩
      · refine .inl ⟨w2, nx, fa, ⟨e1, g.n0, g.n1, g.f0, g.f1⟩, ?_, start _ (e3 _ t2)⟩
        rw [← t1, ← e2, List.drop_zero, List.take_append_drop]
      · refine .inr ⟨fun w nx fa g e => ?_, start _ (e3 _ t2)⟩
        exact n2 nx fa ⟨g.n0, g.n1, g.f0, g.f1⟩ (cut4 w nx fa g e).2
    · refine .inr ⟨fun w nx fa g e => ?_, start _ e1⟩
      exact n1 w g.w4 (by rw [List.drop_zero]; exact (cut4 w nx fa g e).1)
theorem line_ev {l : List UInt8} (hl : l.length ≤ 10000) (s0 : r0.length ≤ 10000) (s1 : r1.length ≤ 10000) (s2 : r2.length ≤ 10000) (s3 : r3.length ≤ 10000) :
    (∃ op w nx fa, GoodL w nx fa ∧ l = fmt op w nx fa ∧ Ev (fun k => impl_line.f k (B l) r0 r1 r2 r3) (r0 ++ [nx], r1 ++ [fa], r2 ++ [op], r3 ++ [w], true)) ∨
    ((∀ op w nx fa, GoodL w nx fa → l ≠ fmt op w nx fa) ∧ Ev (fun k => impl_line.f k (B l) r0 r1 r2 r3) (r0, r1, r2, r3, false)) := by
  have fo : ∀ op w nx fa, fmt op w nx fa = (headF op ++ sLamps) ++ (lampsF 0 w ++ tailF nx fa) := by
    intro op w nx fa; unfold fmt; rw [List.append_assoc]
  have differ : ∀ a b : List UInt8, (sOpen ++ sLamps) ++ a ≠ (sShut ++ sLamps) ++ b := by
    intro a b e
    have := congrArg (fun l : List UInt8 => l.getD 0 0) e
    exact absurd this (by simp)
  have open_ : ∀ w nx fa, fmt true w nx fa = (sOpen ++ sLamps) ++ (lampsF 0 w ++ tailF nx fa) := fun w nx fa => fo true w nx fa
  have shut_ : ∀ w nx fa, fmt false w nx fa = (sShut ++ sLamps) ++ (lampsF 0 w ++ tailF nx fa) := fun w nx fa => fo false w nx fa
  rcases cutp_split l (sOpen ++ sLamps) with ⟨t, rfl, e1⟩ | ⟨n1, e1⟩
  · have ht : t.length ≤ 10000 := by rw [List.length_append] at hl; omega
    have start : ∀ r : Res, Ev (fun k => impl_line.j0 k (B t) true r0 r1 r2 r3) r → Ev (fun k => impl_line.f k (B ((sOpen ++ sLamps) ++ t)) r0 r1 r2 r3) r := by
      intro r h
      unfold impl_line.f
      exact Ev.bindc e1 (Ev.pos rfl h)
    rcases line_j0 ht s0 s1 s2 s3 true with ⟨w, nx, fa, g, e2, e3⟩ | ⟨n2, e3⟩
    · exact .inl ⟨true, w, nx, fa, g, by rw [open_, e2], start _ e3⟩
    · refine .inr ⟨fun op w nx fa g e => ?_, start _ e3⟩
      cases op
      · rw [shut_] at e; exact differ _ _ e
      · rw [open_] at e; exact n2 w nx fa g (List.append_cancel_left e)
  · rcases cutp_split l (sShut ++ sLamps) with ⟨t, rfl, e2⟩ | ⟨n2, e2⟩
    · have ht : t.length ≤ 10000 := by rw [List.length_append] at hl; omega
      have start : ∀ r : Res, Ev (fun k => impl_line.j0 k (B t) false r0 r1 r2 r3) r → Ev (fun k => impl_line.f k (B ((sShut ++ sLamps) ++ t)) r0 r1 r2 r3) r := by
        intro r h
        unfold impl_line.f
        exact Ev.bindc e1 (Ev.neg (by simp) (Ev.bindc e2 (Ev.pos rfl h)))
      rcases line_j0 ht s0 s1 s2 s3 false with ⟨w, nx, fa, g, e3, e4⟩ | ⟨n3, e4⟩
      · exact .inl ⟨false, w, nx, fa, g, by rw [shut_, e3], start _ e4⟩
      · refine .inr ⟨fun op w nx fa g e => ?_, start _ e4⟩
        cases op
        · rw [shut_] at e; exact n3 w nx fa g (List.append_cancel_left e)
        · rw [open_] at e; exact differ _ _ e.symm
    · refine .inr ⟨fun op w nx fa g e => ?_, ?_⟩
      · cases op
        · rw [shut_] at e; exact n2 _ e
        · rw [open_] at e; exact n1 _ e
      · unfold impl_line.f
        exact Ev.bindc e1 (Ev.neg (by simp) (Ev.bindc e2 (Ev.neg (by simp) (Ev.ret rfl))))
end
end Go.Proofs.Ytpdcghclcgbcfab.LinkX
