/- The functions that one law reaches, each as a Lean function, and that Go's call comes to what it says. Condition of each: that the Lean function answers (is not none). -/
import Derived.Test.YtbfmnhgpmpnglaaCx0
import Derived.Test.YtbfmnhgpmpnglaaCx7
import Derived.Test.YtbfmnhgpmpnglaaCx8
namespace Go.Proofs.Ytbfmnhgpmpnglaa.C
open Go.RowKit Go.Proofs.YtbfmnhgpmpnglaaW.PrintWords Go.Proofs.YtbfmnhgpmpnglaaW.PrintLast Go.Proofs.YtbfmnhgpmpnglaaW.PrintMore
attribute [local go_sem] max2_int min2_int max_two min_two max_three min_three max_four min_four   -- for this text's walks alone
set_option linter.unusedVariables false
set_option linter.unusedSimpArgs false

/-! ### impl_chipsCode_1: function 99 -/
theorem cc_pred {b1 : Nat} (A : Option Addr) (c : Nat) (l : List Int) (a1_0 : Int) (A1_1 : Option Addr) (c1_1 : Nat) (l1_1 : List (List Int)) (r : Bool) (w : World) (hr : Kd.C (Kd.int .i64) w A l.length l) (hc : l.length ≤ c) (hr1 : Kd.C (Kd.slice 2 (Kd.int .i64)) w A1_1 l1_1.length l1_1) (hc1 : l1_1.length ≤ c1_1) (hb : w.heap[b1]? = some (.cells #[.int .i64 a1_0, .slice A1_1 l1_1.length c1_1] 28 (0, 0))) (h : impl_Graph_areChips.f a1_0 l1_1 l = some r) :
    Calls Try.prog 102 #[.slice A l.length c, .pointer (some ⟨b1, 0, none⟩)] w fun e w' => e = .returned (.bool (!r)) ∧ Below w.heap.size w w' := by
  have HC := fun W (hw : Below w.heap.size w W) => impl_Graph_areChips.calls a1_0 A1_1 c1_1 l1_1 A c l r W (Kd.C_below hr1 hw) hc1 (Kd.C_below hr hw) hc h
  have HC' := Aside0.mk HC
  have hq0 : w.cell? ⟨b1, 0, none⟩ = some (.int .i64 a1_0) := (blk_cell hb 0).trans rfl
  have hq1 : w.cell? ⟨b1, 1, none⟩ = some (.slice A1_1 l1_1.length c1_1) := (blk_cell hb 1).trans rfl
  have hf0 := blk_frozen hb 0
  have hf1 := blk_frozen hb 1
  clear HC hr hr1 hb h
  go_enter Try.func102, Try.ntmps102
  go_wp2_with (go_at_call 103; refine (HC'.out _ (by repeat (first | exact Below.refl _ _ | apply below_alloc | apply pw_below_drewN | apply below_drew1))).mono ?_; rintro e w' ⟨rfl, hb_⟩; have HB2 := Aside0.mk (below_step (by repeat (first | exact Below.refl _ _ | apply below_alloc | apply pw_below_drewN | apply below_drew1)) hb_ : Below w.heap.size w w'); clear hb_)
  go_ret
  exact ⟨by first | rfl | (simp; done), (by repeat (first | exact HB2.out | apply below_alloc | apply pw_below_drewN | apply below_drew1))⟩
theorem cc_idx (p : List Int → Option Bool) (b1 : Nat) (A : Option Addr) (c : Nat) (l : List (List Int)) (R : Int) (w : World) (hr : Kd.C (Kd.slice 2 (Kd.int .i64)) w A l.length l)
  (hp : ∀ (A' : Option Addr) (c' : Nat) (x : List Int) (b : Bool) w1, Below w.heap.size w w1 → Kd.C (Kd.int .i64) w1 A' x.length x → x.length ≤ c' → p x = some b → Calls Try.prog 102 #[.slice A' x.length c', .pointer (some ⟨b1, 0, none⟩)] w1 fun e w' => e = .returned (.bool b) ∧ Below w1.heap.size w1 w') (h : idxM p l 0 = some R) :
  Calls Try.prog 91 #[.slice A l.length c, .func (.func 102) #[] #[.pointer (some ⟨b1, 0, none⟩)]] w fun e w' => e = .returned (.int .i64 R) ∧ Below w.heap.size w w' := by
  have HR := Aside0.mk hr
  have HP := Aside0.mk hp
  have H' := Aside0.mk h
  have hlen : l.length ≤ 9223372036854775807 := hr.2.1
  clear hr hp h
  go_enter Try.func91, Try.ntmps91
  go_wp2_with fail
  go_loopw [8] (fun i wr => ∃ k : Nat, k ≤ l.length ∧ i = .int .i64 k ∧ Aside0 (idxM p (l.drop k) k = some R) ∧ Aside0 (Below w.heap.size w wr)) (fun i _ => l.length - (intOf i).toNat)
  case atStart => exact ⟨0, Nat.zero_le _, rfl, ⟨by simpa using H'.out⟩, ⟨Below.refl _ _⟩⟩
  case round =>
    clear H'
    obtain ⟨k, hk, rfl, HI, HB⟩ := hrel
    by_cases hlt : k < l.length
    case neg =>
      have hI := HI.out
      rw [List.drop_of_length_le (by omega)] at hI
      simp only [idxM, Option.some.injEq] at hI
      subst hI
      have hb : decide (k < l.length) = false := by simp; omega
      go_wp2
      go_ret
      exact ⟨rfl, HB.out⟩
    have hI := HI.out
    rw [List.drop_eq_getElem_cons hlt] at hI
    simp only [idxM] at hI
    obtain ⟨b, hb, hI⟩ := Option.bind_eq_some_iff.mp hI
    obtain ⟨ad, A', c', e, hcell, hlc, hC⟩ := at_L1 (Kd.C_below HR.out HB.out) (k : Int) (by omega) (by omega)
    cases e
    rw [Int.toNat_natCast] at hcell
    have hx : rd_L1 l (k : Int) = l[k] := by simp [rd_L1, List.getD_eq_getElem?_getD, hlt]
    rw [hx] at hcell hlc hC
    have HCX := Aside0.mk hC
    have HLX := Aside0.mk hlc
    have HBX := Aside0.mk hb
    clear hC hlc hb hx
    cases b with
    | true =>
      simp only [if_true, Option.some.injEq] at hI
      subst hI
      go_wp2_with (go_at_call 102; refine (HP.out _ _ _ true _ HB.out HCX.out HLX.out HBX.out).mono ?_; rintro e w' ⟨rfl, hb_⟩; have HB2 := Aside0.mk (below_step HB.out hb_); clear hb_)
      go_ret
      exact ⟨rfl, HB2.out⟩
    | false =>
      simp only [Bool.false_eq_true, if_false] at hI
      have HD := Aside0.mk hI
      clear hI
      go_wp2_with (go_at_call 102; refine (HP.out _ _ _ false _ HB.out HCX.out HLX.out HBX.out).mono ?_; rintro e w' ⟨rfl, hb_⟩; have HB2 := Aside0.mk (below_step HB.out hb_); clear hb_)
      go_roundw
      case rel => exact ⟨k+1, by omega, by go_num, HD, HB2⟩
      case measure => simp [intOf]; omega
theorem cc_cont {b1 : Nat} (a1_0 : Int) (A1_1 : Option Addr) (c1_1 : Nat) (l1_1 : List (List Int)) (A : Option Addr) (c : Nat) (l : List (List Int)) (i : Int) (w : World) (hr : Kd.C (Kd.slice 2 (Kd.int .i64)) w A l.length l) (hr1 : Kd.C (Kd.slice 2 (Kd.int .i64)) w A1_1 l1_1.length l1_1) (hc1 : l1_1.length ≤ c1_1) (hb : w.heap[b1]? = some (.cells #[.int .i64 a1_0, .slice A1_1 l1_1.length c1_1] 28 (0, 0))) (hi : idxM (fun x => (impl_Graph_areChips.f a1_0 l1_1 x).map not) l 0 = some i) :
    Calls Try.prog 101 #[.slice A l.length c, .func (.func 102) #[] #[.pointer (some ⟨b1, 0, none⟩)]] w fun e w' => e = .returned (.bool (decide (0 ≤ i))) ∧ Below w.heap.size w w' := by
  have HC := fun W (hw : Below w.heap.size w W) => cc_idx (fun x => (impl_Graph_areChips.f a1_0 l1_1 x).map not) b1 A c l i W (Kd.C_below hr hw) (fun A' c' x b w1 hw1 hC hc hx => by
    obtain ⟨b', hb', rfl⟩ := Option.map_eq_some_iff.1 hx
    exact cc_pred A' c' x a1_0 A1_1 c1_1 l1_1 b' w1 hC hc (Kd.C_below hr1 (below_step hw hw1)) hc1 (blk_below hb (below_step hw hw1)) hb') hi
  have HC' := Aside0.mk HC
  clear HC hr hr1 hb hi
  go_enter Try.func101, Try.ntmps101
  go_wp2_with (go_at_call 91; refine (HC'.out _ (Below.refl _ _)).mono ?_; rintro e w' ⟨rfl, hb_⟩; have HB2 := Aside0.mk hb_; clear hb_)
  go_ret
  exact ⟨by first | rfl | (simp; done), HB2.out⟩
theorem cc_clo {b1 b2 b3 : Nat} (a1_0 : Int) (A1_1 : Option Addr) (c1_1 : Nat) (l1_1 : List (List Int)) (a2 : Int) (A3 : Option Addr) (c3 : Nat) (l3 : List (List Int)) (q r : Bool) (w : World) (hr1 : Kd.C (Kd.slice 2 (Kd.int .i64)) w A1_1 l1_1.length l1_1) (hc1 : l1_1.length ≤ c1_1) (hr3 : Kd.C (Kd.slice 2 (Kd.int .i64)) w A3 l3.length l3) (hb1 : w.heap[b1]? = some (.cells #[.int .i64 a1_0, .slice A1_1 l1_1.length c1_1] 28 (0, 0))) (hb2 : w.heap[b2]? = some (.cells #[.int .i64 a2] 2 (0, 0))) (hb3 : w.heap[b3]? = some (.cells #[.slice A3 l3.length c3] 22 (0, 0))) (hq : impl_Graph_isVertex.f a1_0 l1_1 a2 = some q) (hi : q = true → ∃ i, idxM (fun x => (impl_Graph_areChips.f a1_0 l1_1 x).map not) l3 0 = some i ∧ r = !(decide (0 ≤ i))) (hn : q = false → r = false) :
    Calls Try.prog 99 #[.pointer (some ⟨b1, 0, none⟩), .pointer (some ⟨b2, 0, none⟩), .pointer (some ⟨b3, 0, none⟩)] w fun e w' => e = .returned (.bool r) ∧ Below w.heap.size w w' := by
  have HV := fun W (hw : Below w.heap.size w W) => impl_Graph_isVertex.calls a1_0 A1_1 c1_1 l1_1 a2 q W (Kd.C_below hr1 hw) hc1 hq
  have HV' := Aside0.mk HV
  have BK1 := Aside0.mk hb1
  have BK2 := Aside0.mk hb2
  have BK3 := Aside0.mk hb3
  have HB0 := Aside0.mk (Below.refl w.heap.size w)
  have hcw_1_0 : w.cell? ⟨b1, 0, none⟩ = some (.int .i64 a1_0) := (blk_cell hb1 0).trans rfl
  have hcw_1_1 : w.cell? ⟨b1, 1, none⟩ = some (.slice A1_1 l1_1.length c1_1) := (blk_cell hb1 1).trans rfl
  have hcw_2_0 : w.cell? ⟨b2, 0, none⟩ = some (.int .i64 a2) := (blk_cell hb2 0).trans rfl
  have hfw_1_0 := blk_frozen hb1 0
  have hfw_1_1 := blk_frozen hb1 1
  have hfw_2_0 := blk_frozen hb2 0
  cases q with
  | false =>
    obtain rfl := hn rfl
    clear HV hr1 hr3 hb1 hb2 hb3 hq hi hn
    go_enter Try.func99, Try.ntmps99
    go_wp2_with (go_at_call 100; refine (HV'.out _ (by repeat (first | exact Below.refl _ _ | apply below_alloc | apply pw_below_drewN | apply below_drew1))).mono ?_; rintro e w2 ⟨rfl, hb_⟩; have HB2 := Aside0.mk (below_step (by repeat (first | exact Below.refl _ _ | apply below_alloc | apply pw_below_drewN | apply below_drew1)) hb_ : Below w.heap.size w w2); clear hb_)
    go_ret
    exact ⟨by first | rfl | (simp; done), (by repeat (first | exact HB2.out | apply below_alloc | apply pw_below_drewN | apply below_drew1))⟩
  | true =>
    obtain ⟨i, hi1, rfl⟩ := hi rfl
    have HC := fun W (hw : Below w.heap.size w W) => cc_cont a1_0 A1_1 c1_1 l1_1 A3 c3 l3 i W (Kd.C_below hr3 hw) (Kd.C_below hr1 hw) hc1 (blk_below hb1 hw) hi1
    have HC' := Aside0.mk HC
    clear HV HC hr1 hr3 hb1 hb2 hb3 hq hi hn
    go_enter Try.func99, Try.ntmps99
    go_wp2_with (first | (go_at_call 100; refine (HV'.out _ (by repeat (first | exact Below.refl _ _ | apply below_alloc | apply pw_below_drewN | apply below_drew1))).mono ?_; rintro e w2 ⟨rfl, hb_⟩; have HB2 := Aside0.mk (below_step (by repeat (first | exact Below.refl _ _ | apply below_alloc | apply pw_below_drewN | apply below_drew1)) hb_ : Below w.heap.size w w2); clear hb_; have hcz_w2_3_0 : w2.cell? ⟨b3, 0, none⟩ = some (.slice A3 l3.length c3) := (blk_cell (blk_below BK3.out HB2.out) 0).trans rfl; have hfz_w2_3_0 := blk_frozen (blk_below BK3.out HB2.out) 0) | (go_at_call 101; refine (HC'.out _ (by repeat (first | exact HB2.out | apply below_alloc | apply pw_below_drewN | apply below_drew1))).mono ?_; rintro e w3 ⟨rfl, hb_⟩; have HB3 := Aside0.mk (below_step (by repeat (first | exact HB2.out | apply below_alloc | apply pw_below_drewN | apply below_drew1)) hb_ : Below w.heap.size w w3); clear hb_))
    go_ret
    exact ⟨by first | rfl | (simp; done), (by repeat (first | exact HB3.out | apply below_alloc | apply pw_below_drewN | apply below_drew1))⟩
theorem cc_gc {b1 b2 b3 : Nat} (k : Nat) (a0_0 : Int) (A0_1 : Option Addr) (c0_1 : Nat) (l0_1 : List (List Int)) (b r : Bool) (w : World) (hr0 : Kd.C (Kd.slice 2 (Kd.int .i64)) w A0_1 l0_1.length l0_1) (hc0 : l0_1.length ≤ c0_1) (hb : impl_IsGraph.f k a0_0 l0_1 = some b) (hcl : b = true → ∀ W, Below w.heap.size w W → Calls Try.prog 99 #[.pointer (some ⟨b1, 0, none⟩), .pointer (some ⟨b2, 0, none⟩), .pointer (some ⟨b3, 0, none⟩)] W fun e w' => e = .returned (.bool r) ∧ Below W.heap.size W w') :
    Calls Try.prog 85 #[.agg #[.int .i64 a0_0, .slice A0_1 l0_1.length c0_1], .func (.func 99) #[] #[.pointer (some ⟨b1, 0, none⟩), .pointer (some ⟨b2, 0, none⟩), .pointer (some ⟨b3, 0, none⟩)]] w fun e w' => e = .returned (.int .i64 (if b = true then (if r = true then 0 else 2) else 1)) ∧ Below w.heap.size w w' := by
  have HG := fun W (hw : Below w.heap.size w W) => impl_IsGraph.calls k a0_0 A0_1 c0_1 l0_1 b W (Kd.C_below hr0 hw) hc0 hb
  have HG' := Aside0.mk HG
  clear HG hr0 hb
  cases b with
  | false =>
    clear hcl
    go_enter Try.func85, Try.ntmps85
    go_wp2_with (go_at_call 61; refine (HG'.out _ (by repeat (first | exact Below.refl _ _ | apply below_alloc | apply pw_below_drewN | apply below_drew1))).mono ?_; rintro e w1 ⟨rfl, hb_⟩; have HB1 := Aside0.mk (below_step (by repeat (first | exact Below.refl _ _ | apply below_alloc | apply pw_below_drewN | apply below_drew1)) hb_ : Below w.heap.size w w1); clear hb_)
    go_ret
    exact ⟨by first | rfl | (simp; done), (by repeat (first | exact HB1.out | apply below_alloc | apply pw_below_drewN | apply below_drew1))⟩
  | true =>
    have HC' := Aside0.mk (hcl rfl)
    clear hcl
    cases r with
    | false =>
      go_enter Try.func85, Try.ntmps85
      go_wp2_with (first | (go_at_call 61; refine (HG'.out _ (by repeat (first | exact Below.refl _ _ | apply below_alloc | apply pw_below_drewN | apply below_drew1))).mono ?_; rintro e w1 ⟨rfl, hb_⟩; have HB1 := Aside0.mk (below_step (by repeat (first | exact Below.refl _ _ | apply below_alloc | apply pw_below_drewN | apply below_drew1)) hb_ : Below w.heap.size w w1); clear hb_) | (go_at_call 99; refine (HC'.out _ (by repeat (first | exact HB1.out | apply below_alloc | apply pw_below_drewN | apply below_drew1))).mono ?_; rintro e w2 ⟨rfl, hb_⟩; have HB2 := Aside0.mk (below_step (by repeat (first | exact HB1.out | apply below_alloc | apply pw_below_drewN | apply below_drew1)) hb_ : Below w.heap.size w w2); clear hb_))
      go_ret
      exact ⟨by first | rfl | (simp; done), (by repeat (first | exact HB2.out | apply below_alloc | apply pw_below_drewN | apply below_drew1))⟩
    | true =>
      go_enter Try.func85, Try.ntmps85
      go_wp2_with (first | (go_at_call 61; refine (HG'.out _ (by repeat (first | exact Below.refl _ _ | apply below_alloc | apply pw_below_drewN | apply below_drew1))).mono ?_; rintro e w1 ⟨rfl, hb_⟩; have HB1 := Aside0.mk (below_step (by repeat (first | exact Below.refl _ _ | apply below_alloc | apply pw_below_drewN | apply below_drew1)) hb_ : Below w.heap.size w w1); clear hb_) | (go_at_call 99; refine (HC'.out _ (by repeat (first | exact HB1.out | apply below_alloc | apply pw_below_drewN | apply below_drew1))).mono ?_; rintro e w2 ⟨rfl, hb_⟩; have HB2 := Aside0.mk (below_step (by repeat (first | exact HB1.out | apply below_alloc | apply pw_below_drewN | apply below_drew1)) hb_ : Below w.heap.size w w2); clear hb_))
      go_ret
      exact ⟨by first | rfl | (simp; done), (by repeat (first | exact HB2.out | apply below_alloc | apply pw_below_drewN | apply below_drew1))⟩
def impl_chipsCode_1.f (k : Nat) (a0_0 : Int) (l0_1 : List (List Int)) (a1_0 : Int) (l1_1 : List (List Int)) (a2 : Int) (l3 : List (List Int)) : Option Int :=
  (impl_IsGraph.f k a0_0 l0_1).bind fun b => if b = true then ((impl_Graph_isVertex.f a1_0 l1_1 a2).bind fun q => if q = true then ((idxM (fun x => (impl_Graph_areChips.f a1_0 l1_1 x).map not) l3 0).bind fun i => if 0 ≤ i then some 2 else (impl_Graph_parts.f k a0_0 l0_1).bind fun p => if p = 1 then some 0 else some 5) else some 2) else some 1
theorem impl_chipsCode_1.mono : ∀ a0 a1 a2 a3 a4 a5 k, LeO (impl_chipsCode_1.f k a0 a1 a2 a3 a4 a5) (impl_chipsCode_1.f (k + 1) a0 a1 a2 a3 a4 a5) := by
  intro a0 a1 a2 a3 a4 a5 k
  unfold impl_chipsCode_1.f
  repeat' first
      | (with_reducible exact impl_Graph_parts.mono _ _ _)
      | (with_reducible exact impl_IsGraph.mono _ _ _)
      | (with_reducible exact LeO.refl _)
      | (with_reducible exact LeO.none _)
      | (with_reducible refine LeO.ite ?_ ?_)
      | (with_reducible refine LeO.bind ?_ (fun _ => ?_))
      | exact impl_Graph_parts.mono _ _ _
      | exact impl_IsGraph.mono _ _ _
      | exact LeO.none _
      | refine LeO.ite ?_ ?_
      | refine LeO.bind ?_ (fun _ => ?_)
set_option maxHeartbeats 8000000 in
set_option maxRecDepth 100000 in
theorem impl_chipsCode_1.calls {b1 b2 b3 : Nat} (k : Nat) (a0_0 : Int) (A0_1 : Option Addr) (c0_1 : Nat) (l0_1 : List (List Int)) (a1_0 : Int) (A1_1 : Option Addr) (c1_1 : Nat) (l1_1 : List (List Int)) (a2 : Int) (A3 : Option Addr) (c3 : Nat) (l3 : List (List Int)) (r : Int) (w : World) (hr0_1 : Kd.C (Kd.slice 2 (Kd.int .i64)) w A0_1 l0_1.length l0_1) (hc0_1 : l0_1.length ≤ c0_1) (hr1_1 : Kd.C (Kd.slice 2 (Kd.int .i64)) w A1_1 l1_1.length l1_1) (hc1_1 : l1_1.length ≤ c1_1) (hr3 : Kd.C (Kd.slice 2 (Kd.int .i64)) w A3 l3.length l3) (hc3 : l3.length ≤ c3) (hb1 : w.heap[b1]? = some (.cells #[.int .i64 a1_0, .slice A1_1 l1_1.length c1_1] 28 (0, 0))) (hb2 : w.heap[b2]? = some (.cells #[.int .i64 a2] 2 (0, 0))) (hb3 : w.heap[b3]? = some (.cells #[.slice A3 l3.length c3] 22 (0, 0))) (h : impl_chipsCode_1.f k a0_0 l0_1 a1_0 l1_1 a2 l3 = some r) :
    Calls Try.prog 57 #[.agg #[.int .i64 a0_0, .slice A0_1 l0_1.length c0_1], .func (.func 99) #[] #[.pointer (some ⟨b1, 0, none⟩), .pointer (some ⟨b2, 0, none⟩), .pointer (some ⟨b3, 0, none⟩)]] w fun e w' => e = .returned (.int .i64 r) ∧ Below w.heap.size w w' := by
  unfold impl_chipsCode_1.f at h
  obtain ⟨b, hb, h⟩ := Option.bind_eq_some_iff.mp h
  have key : ∃ c : Int, (∀ W, Below w.heap.size w W → Calls Try.prog 85 #[.agg #[.int .i64 a0_0, .slice A0_1 l0_1.length c0_1], .func (.func 99) #[] #[.pointer (some ⟨b1, 0, none⟩), .pointer (some ⟨b2, 0, none⟩), .pointer (some ⟨b3, 0, none⟩)]] W fun e w' => e = .returned (.int .i64 c) ∧ Below W.heap.size W w') ∧ ((c ≠ 0 ∧ r = c ∧ (c == 0) = false) ∨ (c = 0 ∧ ∃ p, impl_Graph_parts.f k a0_0 l0_1 = some p ∧ ((p = 1 ∧ r = 0) ∨ (p ≠ 1 ∧ r = 5)))) := by
    cases b with
    | false =>
      simp only [Bool.false_eq_true, if_false, Option.some.injEq] at h
      subst h
      exact ⟨1, fun W hw => cc_gc k a0_0 A0_1 c0_1 l0_1 false true W (Kd.C_below hr0_1 hw) hc0_1 hb (fun h => by simp at h), .inl ⟨by decide, rfl, rfl⟩⟩
    | true =>
      simp only [if_true] at h
      obtain ⟨q, hq, h⟩ := Option.bind_eq_some_iff.mp h
      cases q with
      | false =>
        simp only [Bool.false_eq_true, if_false, Option.some.injEq] at h
        subst h
        exact ⟨2, fun W hw => cc_gc k a0_0 A0_1 c0_1 l0_1 true false W (Kd.C_below hr0_1 hw) hc0_1 hb (fun _ W1 hw1 => cc_clo a1_0 A1_1 c1_1 l1_1 a2 A3 c3 l3 false false W1 (Kd.C_below hr1_1 (below_step hw hw1)) hc1_1 (Kd.C_below hr3 (below_step hw hw1)) (blk_below hb1 (below_step hw hw1)) (blk_below hb2 (below_step hw hw1)) (blk_below hb3 (below_step hw hw1)) hq (fun h => by simp at h) (fun _ => rfl)), .inl ⟨by decide, rfl, rfl⟩⟩
      | true =>
        simp only [if_true] at h
        obtain ⟨i, hi, h⟩ := Option.bind_eq_some_iff.mp h
        by_cases h0 : 0 ≤ i
        case neg =>
          rw [if_neg h0] at h
          obtain ⟨p, hp, h⟩ := Option.bind_eq_some_iff.mp h
          refine ⟨0, fun W hw => cc_gc k a0_0 A0_1 c0_1 l0_1 true true W (Kd.C_below hr0_1 hw) hc0_1 hb (fun _ W1 hw1 => cc_clo a1_0 A1_1 c1_1 l1_1 a2 A3 c3 l3 true true W1 (Kd.C_below hr1_1 (below_step hw hw1)) hc1_1 (Kd.C_below hr3 (below_step hw hw1)) (blk_below hb1 (below_step hw hw1)) (blk_below hb2 (below_step hw hw1)) (blk_below hb3 (below_step hw hw1)) hq (fun _ => ⟨i, hi, by simp [h0]⟩) (fun h => by simp at h)), .inr ⟨rfl, p, hp, ?_⟩⟩
          by_cases h1 : p = 1
          case neg =>
            rw [if_neg h1] at h
            exact .inr ⟨h1, (Option.some.inj h).symm⟩
          rw [if_pos h1] at h
          exact .inl ⟨h1, (Option.some.inj h).symm⟩
        rw [if_pos h0] at h
        obtain rfl := Option.some.inj h
        exact ⟨2, fun W hw => cc_gc k a0_0 A0_1 c0_1 l0_1 true false W (Kd.C_below hr0_1 hw) hc0_1 hb (fun _ W1 hw1 => cc_clo a1_0 A1_1 c1_1 l1_1 a2 A3 c3 l3 true false W1 (Kd.C_below hr1_1 (below_step hw hw1)) hc1_1 (Kd.C_below hr3 (below_step hw hw1)) (blk_below hb1 (below_step hw hw1)) (blk_below hb2 (below_step hw hw1)) (blk_below hb3 (below_step hw hw1)) hq (fun _ => ⟨i, hi, by simp [h0]⟩) (fun h => by simp at h)), .inl ⟨by decide, rfl, rfl⟩⟩
  clear h hb
  obtain ⟨c, HK, hc⟩ := key
  have HK' := Aside0.mk HK
  clear HK
  rcases hc with ⟨hc0, rfl, hcb⟩ | ⟨rfl, p, hp, hc⟩
  · clear hr0_1 hr1_1 hr3 hb1 hb2 hb3
    have hcd : decide (r = 0) = false := by simpa using hc0
    go_enter Try.func57, Try.ntmps57
    go_wp2_with (go_at_call 85; refine (HK'.out _ (by repeat (first | exact Below.refl _ _ | apply below_alloc | apply pw_below_drewN | apply below_drew1))).mono ?_; rintro e w1 ⟨rfl, hb_⟩; have HB1 := Aside0.mk (below_step (by repeat (first | exact Below.refl _ _ | apply below_alloc | apply pw_below_drewN | apply below_drew1)) hb_ : Below w.heap.size w w1); clear hb_)
    go_ret
    exact ⟨by first | rfl | (simp; done), (by repeat (first | exact HB1.out | apply below_alloc | apply pw_below_drewN | apply below_drew1))⟩
  · have HP := fun W (hw : Below w.heap.size w W) => impl_Graph_parts.calls k a0_0 A0_1 c0_1 l0_1 p W (Kd.C_below hr0_1 hw) hc0_1 hp
    have HP' := Aside0.mk HP
    clear HP hr0_1 hr1_1 hr3 hb1 hb2 hb3 hp
    rcases hc with ⟨rfl, rfl⟩ | ⟨h1, rfl⟩
    · go_enter Try.func57, Try.ntmps57
      go_wp2_with (first | (go_at_call 85; refine (HK'.out _ (by repeat (first | exact Below.refl _ _ | apply below_alloc | apply pw_below_drewN | apply below_drew1))).mono ?_; rintro e w1 ⟨rfl, hb_⟩; have HB1 := Aside0.mk (below_step (by repeat (first | exact Below.refl _ _ | apply below_alloc | apply pw_below_drewN | apply below_drew1)) hb_ : Below w.heap.size w w1); have hq0_ : w1.cell? ⟨w.heap.size, 0, none⟩ = some (.int .i64 a0_0) := (hb_.cell (p := ⟨w.heap.size, 0, none⟩) (by simp)).trans (by go_simp); have hq1_ : w1.cell? ⟨w.heap.size, 1, none⟩ = some (.slice A0_1 l0_1.length c0_1) := (hb_.cell (p := ⟨w.heap.size, 1, none⟩) (by simp)).trans (by go_simp); clear hb_) | (go_at_call 106; refine (HP'.out _ (by repeat (first | exact HB1.out | apply below_alloc | apply pw_below_drewN | apply below_drew1))).mono ?_; rintro e w2 ⟨rfl, hb_⟩; have HB2 := Aside0.mk (below_step (by repeat (first | exact HB1.out | apply below_alloc | apply pw_below_drewN | apply below_drew1)) hb_ : Below w.heap.size w w2); clear hb_))
      go_ret
      exact ⟨by first | rfl | (simp; done), (by repeat (first | exact HB2.out | apply below_alloc | apply pw_below_drewN | apply below_drew1))⟩
    · have h1b : (p == 1) = false := by simpa using h1
      go_enter Try.func57, Try.ntmps57
      go_wp2_with (first | (go_at_call 85; refine (HK'.out _ (by repeat (first | exact Below.refl _ _ | apply below_alloc | apply pw_below_drewN | apply below_drew1))).mono ?_; rintro e w1 ⟨rfl, hb_⟩; have HB1 := Aside0.mk (below_step (by repeat (first | exact Below.refl _ _ | apply below_alloc | apply pw_below_drewN | apply below_drew1)) hb_ : Below w.heap.size w w1); have hq0_ : w1.cell? ⟨w.heap.size, 0, none⟩ = some (.int .i64 a0_0) := (hb_.cell (p := ⟨w.heap.size, 0, none⟩) (by simp)).trans (by go_simp); have hq1_ : w1.cell? ⟨w.heap.size, 1, none⟩ = some (.slice A0_1 l0_1.length c0_1) := (hb_.cell (p := ⟨w.heap.size, 1, none⟩) (by simp)).trans (by go_simp); clear hb_) | (go_at_call 106; refine (HP'.out _ (by repeat (first | exact HB1.out | apply below_alloc | apply pw_below_drewN | apply below_drew1))).mono ?_; rintro e w2 ⟨rfl, hb_⟩; have HB2 := Aside0.mk (below_step (by repeat (first | exact HB1.out | apply below_alloc | apply pw_below_drewN | apply below_drew1)) hb_ : Below w.heap.size w w2); clear hb_))
      go_ret
      exact ⟨by first | rfl | (simp; done), (by repeat (first | exact HB2.out | apply below_alloc | apply pw_below_drewN | apply below_drew1))⟩

/-! ### impl_chipsCode: function 52 -/
def impl_chipsCode.f (k : Nat) (a0_0 : Int) (l0_1 : List (List Int)) (a1 : Int) (l2 : List (List Int)) : Option (Int) := (impl_chipsCode_1.f k a0_0 l0_1 a0_0 l0_1 a1 l2).bind fun t104 => (some t104)
theorem impl_chipsCode.mono : ∀ a0 a1 a2 a3 k, LeO (impl_chipsCode.f k a0 a1 a2 a3) (impl_chipsCode.f (k + 1) a0 a1 a2 a3) := by
  intro a0 a1 a2 a3 k
  unfold impl_chipsCode.f
  repeat' first
      | (with_reducible exact impl_chipsCode_1.mono _ _ _ _ _ _ _)
      | (with_reducible exact LeO.refl _)
      | (with_reducible exact LeO.none _)
      | (with_reducible refine LeO.ite ?_ ?_)
      | (with_reducible refine LeO.bind ?_ (fun _ => ?_))
      | exact impl_chipsCode_1.mono _ _ _ _ _ _ _
      | exact LeO.none _
      | refine LeO.ite ?_ ?_
      | refine LeO.bind ?_ (fun _ => ?_)
set_option maxHeartbeats 8000000 in
set_option maxRecDepth 100000 in
theorem impl_chipsCode.calls (k : Nat) (a0_0 : Int) (A0_1 : Option Addr) (c0_1 : Nat) (l0_1 : List (List Int)) (a1 : Int) (A2 : Option Addr) (c2 : Nat) (l2 : List (List Int)) (r : Int) (w : World) (hr0_1 : Kd.C (Kd.slice 2 (Kd.int .i64)) w A0_1 l0_1.length l0_1) (hc0_1 : l0_1.length ≤ c0_1) (hr2 : Kd.C (Kd.slice 2 (Kd.int .i64)) w A2 l2.length l2) (hc2 : l2.length ≤ c2) (h : impl_chipsCode.f k a0_0 l0_1 a1 l2 = some r) :
    Calls Try.prog 52 #[.agg #[.int .i64 a0_0, .slice A0_1 l0_1.length c0_1], .int .i64 a1, .slice A2 l2.length c2] w fun e w' => e = .returned (.int .i64 r) ∧ Below w.heap.size w w' := by
  have hu28 := Try.underlying28
  have HR0_1 := Aside0.mk hr0_1
  have HC0_1 := Aside0.mk hc0_1
  clear hr0_1 hc0_1
  have HR2 := Aside0.mk hr2
  have HC2 := Aside0.mk hc2
  clear hr2 hc2
  have HB := Aside0.mk (Below.refl w.heap.size w)
  have H : ((impl_chipsCode_1.f k a0_0 l0_1 a0_0 l0_1 a1 l2).bind fun t104 => (some t104)) = some r := h
  clear h
  replace H := Option.bind_eq_some_iff.mp H
  obtain ⟨t104, A40, H⟩ := H
  replace H : (some t104) = some r := H
  have A4 := Aside0.mk A40
  clear A40
  obtain rfl := Option.some.inj H
  go_enter Try.func52, Try.ntmps52
  go_wp2_with (first | ((with_reducible refine gate_dst (N := 3) rfl ?_); refine box_event ?hg (N := 3) ?hd (cs := #[.int .i64 a0_0, .slice A0_1 l0_1.length c0_1]) (t := 28) ?hr ?_; (case hd => rfl); (case hg => rfl); (case hr => first | (go_simp; done) | (go_simp; rfl)); intro gb101 hg w5 hbox hb; have n0_ := Aside0.mk (below_step bl hb); have n1_ := Aside0.mk (hbox); have n2_ := Aside0.mk ((by rw [hg]; exact (below_size bl) : w.heap.size ≤ gb101)); have n3_ := Aside0.mk ((by rw [hg]; exact (below_size bl) : w.heap.size ≤ gb101)); clear HB; have HB := n0_; have BK101 := n1_; have GW101 := n2_; have GE101 := n3_; clear n0_ n1_ n2_ n3_; clear hb hbox hg) | ((with_reducible refine gate_dst (N := 4) rfl ?_); refine box_event ?hg (N := 4) ?hd (cs := #[.int .i64 a1]) (t := 2) ?hr ?_; (case hd => rfl); (case hg => rfl); (case hr => first | (go_simp; done) | (go_simp; rfl)); intro gb102 hg w6 hbox hb; have n0_ := Aside0.mk (blk_below (g := gb101) (o := .cells #[.int .i64 a0_0, .slice A0_1 l0_1.length c0_1] 28 (0, 0)) bk hb); have n1_ := Aside0.mk (below_step bl hb); have n2_ := Aside0.mk (hbox); have n3_ := Aside0.mk ((by rw [hg]; exact (below_size bl) : w.heap.size ≤ gb102)); have n4_ := Aside0.mk ((by rw [hg]; exact (below_size bl) : w.heap.size ≤ gb102)); have n5_ := Aside0.mk ((by rw [hg]; exact Nat.ne_of_lt (blk_lt (g := gb101) (o := .cells #[.int .i64 a0_0, .slice A0_1 l0_1.length c0_1] 28 (0, 0)) bk) : gb101 ≠ gb102)); have n6_ := Aside0.mk ((by rw [hg]; exact Nat.ne_of_gt (blk_lt (g := gb101) (o := .cells #[.int .i64 a0_0, .slice A0_1 l0_1.length c0_1] 28 (0, 0)) bk) : gb102 ≠ gb101)); clear BK101; clear HB; have BK101 := n0_; have HB := n1_; have BK102 := n2_; have GW102 := n3_; have GE102 := n4_; have NB101_102 := n5_; have NB102_101 := n6_; clear n0_ n1_ n2_ n3_ n4_ n5_ n6_; clear hb hbox hg) | ((with_reducible refine gate_dst (N := 5) rfl ?_); refine box_event ?hg (N := 5) ?hd (cs := #[.slice A2 l2.length c2]) (t := 22) ?hr ?_; (case hd => rfl); (case hg => rfl); (case hr => first | (go_simp; done) | (go_simp; rfl)); intro gb103 hg w7 hbox hb; have n0_ := Aside0.mk (blk_below (g := gb101) (o := .cells #[.int .i64 a0_0, .slice A0_1 l0_1.length c0_1] 28 (0, 0)) bk hb); have n1_ := Aside0.mk (blk_below (g := gb102) (o := .cells #[.int .i64 a1] 2 (0, 0)) bk hb); have n2_ := Aside0.mk (below_step bl hb); have n3_ := Aside0.mk (hbox); have n4_ := Aside0.mk ((by rw [hg]; exact (below_size bl) : w.heap.size ≤ gb103)); have n5_ := Aside0.mk ((by rw [hg]; exact (below_size bl) : w.heap.size ≤ gb103)); have n6_ := Aside0.mk ((by rw [hg]; exact Nat.ne_of_lt (blk_lt (g := gb101) (o := .cells #[.int .i64 a0_0, .slice A0_1 l0_1.length c0_1] 28 (0, 0)) bk) : gb101 ≠ gb103)); have n7_ := Aside0.mk ((by rw [hg]; exact Nat.ne_of_gt (blk_lt (g := gb101) (o := .cells #[.int .i64 a0_0, .slice A0_1 l0_1.length c0_1] 28 (0, 0)) bk) : gb103 ≠ gb101)); have n8_ := Aside0.mk ((by rw [hg]; exact Nat.ne_of_lt (blk_lt (g := gb102) (o := .cells #[.int .i64 a1] 2 (0, 0)) bk) : gb102 ≠ gb103)); have n9_ := Aside0.mk ((by rw [hg]; exact Nat.ne_of_gt (blk_lt (g := gb102) (o := .cells #[.int .i64 a1] 2 (0, 0)) bk) : gb103 ≠ gb102)); clear BK101; clear BK102; clear HB; have BK101 := n0_; have BK102 := n1_; have HB := n2_; have BK103 := n3_; have GW103 := n4_; have GE103 := n5_; have NB101_103 := n6_; have NB103_101 := n7_; have NB102_103 := n8_; have NB103_102 := n9_; clear n0_ n1_ n2_ n3_ n4_ n5_ n6_ n7_ n8_ n9_; clear hb hbox hg; have hnb8 := NB101_102.out; have hnc8 := NB102_101.out; have hnb9 := NB101_103.out; have hnc9 := NB103_101.out; have hcz10_0 : w7.cell? ⟨gb101, 0, none⟩ = some (.int .i64 a0_0) := (blk_cell BK101.out 0).trans rfl; have hcz10_1 : w7.cell? ⟨gb101, 1, none⟩ = some (.slice A0_1 l0_1.length c0_1) := (blk_cell BK101.out 1).trans rfl; have hfz10_0 := blk_frozen BK101.out 0; have hfz10_1 := blk_frozen BK101.out 1) | ((with_reducible refine gate_callee (f := 57) rfl ?_); refine goesL_ (some 9) rfl rfl Try.func57 (by kernel_rfl) rfl #[.agg #[.int .i64 a0_0, .slice A0_1 l0_1.length c0_1], .func (.func 99) #[] #[.pointer (some ⟨gb101, 0, none⟩), .pointer (some ⟨gb102, 0, none⟩), .pointer (some ⟨gb103, 0, none⟩)]] rfl gm ?_; (with_reducible refine (impl_chipsCode_1.calls k a0_0 _ _ l0_1 a0_0 A0_1 c0_1 l0_1 a1 A2 c2 l2 t104 _ ?side1 ?side2 ?side3 ?side4 ?side5 ?side6 ?side7 ?side8 ?side9 A4.out).mono ?_); (case side1 => repeat (first | exact (Kd.C_below HR0_1.out HB.out) | (with_reducible refine Kd.C_alloc ?_ _) | (with_reducible refine Kd.C_drewN ?_ _) | (with_reducible refine Kd.C_drew ?_))); (case side2 => exact HC0_1.out); (case side3 => repeat (first | exact (Kd.C_below HR0_1.out HB.out) | (with_reducible refine Kd.C_alloc ?_ _) | (with_reducible refine Kd.C_drewN ?_ _) | (with_reducible refine Kd.C_drew ?_))); (case side4 => exact HC0_1.out); (case side5 => repeat (first | exact (Kd.C_below HR2.out HB.out) | (with_reducible refine Kd.C_alloc ?_ _) | (with_reducible refine Kd.C_drewN ?_ _) | (with_reducible refine Kd.C_drew ?_))); (case side6 => exact HC2.out); (case side7 => exact by (with_reducible repeat (first | refine blk_drewN ?_ _ | refine blk_drew ?_ | refine blk_alloc ?_ _)); exact BK101.out); (case side8 => exact by (with_reducible repeat (first | refine blk_drewN ?_ _ | refine blk_drew ?_ | refine blk_alloc ?_ _)); exact BK102.out); (case side9 => exact by (with_reducible repeat (first | refine blk_drewN ?_ _ | refine blk_drew ?_ | refine blk_alloc ?_ _)); exact BK103.out); rintro e w11 ⟨rfl, hb⟩; refine ⟨_, rfl, ?_⟩; have n0_ := Aside0.mk (blk_below (g := gb101) (o := .cells #[.int .i64 a0_0, .slice A0_1 l0_1.length c0_1] 28 (0, 0)) bk hb); have n1_ := Aside0.mk (blk_below (g := gb102) (o := .cells #[.int .i64 a1] 2 (0, 0)) bk hb); have n2_ := Aside0.mk (blk_below (g := gb103) (o := .cells #[.slice A2 l2.length c2] 22 (0, 0)) bk hb); have n3_ := Aside0.mk (below_step bl hb); clear BK101; clear BK102; clear BK103; clear HB; have BK101 := n0_; have BK102 := n1_; have BK103 := n2_; have HB := n3_; clear n0_ n1_ n2_ n3_; (try clear hb); (try clear hb2); (try clear hk); (try clear hi)))
  go_ret
  exact ⟨by first | rfl | (simp [errW_none, errW_some] <;> rfl) | (simp [*, errW_none, errW_some] <;> rfl), bl⟩

/-! ### impl_square: function 140 -/
def impl_square.l0 : Nat → Int → List (List Int) → Int → Int → Option ((List (List Int)))
  | 0, _, _, _, _ => none
  | k + 1, x0, x3, x5, x6 => if x6 < x5 then (if 0 ≤ x0 then (if (x0 : Int).toNat ≤ 35184372088832 then (if x3.length < 5864062014805 then (impl_square.l0 k x0 (x3 ++ [(List.replicate (x0 : Int).toNat 0)]) x5 (wrap64 (x6 + 1))) else (none)) else (none)) else (none)) else (some x3)
def impl_square.f (k : Nat) (a0 : Int) : Option ((List (List Int))) := impl_square.l0 k a0 (([] : List (List Int))) a0 0
theorem impl_square.mono_l : ∀ k, (∀ y0 y1 y2 y3, LeO (impl_square.l0 k y0 y1 y2 y3) (impl_square.l0 (k + 1) y0 y1 y2 y3))
  | 0 => fun _ _ _ _ r h => by simp [impl_square.l0] at h
  | k + 1 => by
    have ih0 := impl_square.mono_l k
    · intro y0 y1 y2 y3
      unfold impl_square.l0
      repeat' first
      | (with_reducible exact ih0 _ _ _ _)
      | (with_reducible exact LeO.refl _)
      | (with_reducible exact LeO.none _)
      | (with_reducible refine LeO.ite ?_ ?_)
      | (with_reducible refine LeO.bind ?_ (fun _ => ?_))
      | exact ih0 _ _ _ _
      | exact LeO.none _
      | refine LeO.ite ?_ ?_
      | refine LeO.bind ?_ (fun _ => ?_)
theorem impl_square.mono : ∀ a0 k, LeO (impl_square.f k a0) (impl_square.f (k + 1) a0) := by
  intro a0 k
  have ih0 := impl_square.mono_l k
  unfold impl_square.f
  repeat' first
      | (with_reducible exact ih0 _ _ _ _)
      | (with_reducible exact LeO.refl _)
      | (with_reducible exact LeO.none _)
      | (with_reducible refine LeO.ite ?_ ?_)
      | (with_reducible refine LeO.bind ?_ (fun _ => ?_))
      | exact ih0 _ _ _ _
      | exact LeO.none _
      | refine LeO.ite ?_ ?_
      | refine LeO.bind ?_ (fun _ => ?_)
set_option maxHeartbeats 8000000 in
set_option maxRecDepth 100000 in
theorem impl_square.calls (k : Nat) (a0 : Int) (r : List (List Int)) (w : World) (h : impl_square.f k a0 = some r) :
    Calls Try.prog 140 #[.int .i64 a0] w fun e w' => ∃ v0_ : Value, e = .returned (v0_) ∧ Kd.S (Kd.slice 2 (Kd.int .i64)) 34 w' w.heap.size (fun _ => True) v0_ r ∧ Below w.heap.size w w' := by
  have HB := Aside0.mk (Below.refl w.heap.size w)
  have H : (impl_square.l0 k a0 (([] : List (List Int))) a0 0) = some r := h
  clear h
  obtain ⟨y101, hy101⟩ : ∃ y_ : List (List Int), y_ = (([] : List (List Int))) := ⟨_, rfl⟩
  replace H : (impl_square.l0 k a0 y101 a0 0) = some r := by first | (rw [hy101]; with_reducible exact H) | (have H2_ := (Option.bind_some _ _).symm.trans H; rw [hy101]; with_reducible exact H2_) | (have H2_ := (Option.bind_some _ _).symm.trans H; with_reducible exact H2_) | with_reducible exact H | (rw [hy101]; exact H) | exact H
  have Ny101 := Aside0.mk hy101
  clear hy101
  have H' := Aside0.mk H
  clear H
  go_enter Try.func140, Try.ntmps140
  go_wp2_with (first | ((with_reducible refine gate_dst (N := 4) rfl ?_); refine Kd.S_lit (Kd.slice 2 (Kd.int .i64)) _ 34 ?hg (N := 4) ?hd (xs := ([] : List (List Int))) (inner := []) (ok := fun _ => True) (okp := fun _ => True) ?hr ?hp (fun _ hk => hk) trivial (Below.refl _ _) (Nat.le_refl _) (by simp) ?_; (case hd => rfl); (case hg => rfl); (case hr => first | (go_simp; done) | (go_simp; rfl)); (case hp => exact (Reps.none _ _)); intro v102 w2 ho3 hb hg_ hnew_; clear hg_ hnew_; (first | rw [← Ny101.out] at ho3 | (simp only [Int.reduceToNat] at ho3; rw [← Ny101.out] at ho3)); have n0_ := Aside0.mk (Kd.S_lower ho3 (below_size bl)); have n1_ := Aside0.mk (below_step bl hb); clear HB; have HO103 := n0_; have HB := n1_; clear n0_ n1_; clear hb ho3))
  go_loopg [3, 6] k (fun kq v3 v6 w' => ∃ (x3_1 : List (List Int)) (x6_1 : Int), v6 = .int .i64 x6_1 ∧ Aside0 (impl_square.l0 kq a0 x3_1 a0 x6_1 = some r) ∧ Aside0 (kq ≤ k) ∧ Aside0 (Kd.S (Kd.slice 2 (Kd.int .i64)) 34 w' w.heap.size (fun _ => True) v3 x3_1) ∧ Aside0 (Below w.heap.size w w'))
  case atStart => exact ⟨(y101), (0), rs, H', ⟨Nat.le_refl _⟩, ⟨by (with_reducible repeat (first | apply Kd.S_alloc | apply Kd.S_drewN | apply Kd.S_drew)); exact HO103.out⟩, ⟨bl⟩⟩
  case round =>
    clear H'
    (try clear c1); (try clear p2)
    obtain ⟨x3_1, x6_1, rfl, HA, HK1, HO_3, HB⟩ := hrel
    cases gk with
    | zero => exact absurd HA.out (by simp [impl_square.l0])
    | succ k1 =>
      have H := HA.out
      clear HA
      simp only [impl_square.l0] at H
      by_cases c4 : x6_1 < a0
      case neg =>
        rw [if_neg c4] at H
        have c4b0 : decide (x6_1 < a0) = false := decide_eq_false c4
        clear c4
        obtain rfl := Option.some.inj H
        go_wp2
        go_ret
        exact ⟨_, by first | rfl | (simp [errW_none, errW_some] <;> rfl) | (simp [*, errW_none, errW_some] <;> rfl), by (with_reducible repeat (first | apply Kd.S_alloc | apply Kd.S_drewN | apply Kd.S_drew)); exact HO_3.out, bl⟩
      rw [if_pos c4] at H
      have c4b0 : decide (x6_1 < a0) = true := decide_eq_true c4
      clear c4
      by_cases c5 : 0 ≤ a0
      case neg => rw [if_neg c5] at H; exact absurd H (by simp)
      rw [if_pos c5] at H
      have c5b0 := eq_true c5
      have c5b1 : decide (0 ≤ a0) = true := decide_eq_true c5
      clear c5
      by_cases c6 : (a0 : Int).toNat ≤ 35184372088832
      case neg => rw [if_neg c6] at H; exact absurd H (by simp)
      rw [if_pos c6] at H
      have c6b0 := eq_true c6
      have c6b1 : decide ((a0 : Int).toNat ≤ 35184372088832) = true := decide_eq_true c6
      clear c6
      obtain ⟨y104, hy104⟩ : ∃ y_ : List Int, y_ = (List.replicate (a0 : Int).toNat 0) := ⟨_, rfl⟩
      replace H : (if x3_1.length < 5864062014805 then (impl_square.l0 k1 a0 (x3_1 ++ [y104]) a0 (wrap64 (x6_1 + 1))) else (none)) = some r := by first | (rw [hy104]; with_reducible exact H) | (have H2_ := (Option.bind_some _ _).symm.trans H; rw [hy104]; with_reducible exact H2_) | (have H2_ := (Option.bind_some _ _).symm.trans H; with_reducible exact H2_) | with_reducible exact H | (rw [hy104]; exact H) | exact H
      have Ny104 := Aside0.mk hy104
      clear hy104
      by_cases c7 : x3_1.length < 5864062014805
      case neg => rw [if_neg c7] at H; exact absurd H (by simp)
      rw [if_pos c7] at H
      have LMc7 := Aside0.mk c7
      clear c7
      obtain ⟨y107, hy107⟩ : ∃ y_ : List (List Int), y_ = (x3_1 ++ [y104]) := ⟨_, rfl⟩
      replace H : (impl_square.l0 k1 a0 y107 a0 (wrap64 (x6_1 + 1))) = some r := by first | (rw [hy107]; with_reducible exact H) | (have H2_ := (Option.bind_some _ _).symm.trans H; rw [hy107]; with_reducible exact H2_) | (have H2_ := (Option.bind_some _ _).symm.trans H; with_reducible exact H2_) | with_reducible exact H | (rw [hy107]; exact H) | exact H
      have Ny107 := Aside0.mk hy107
      clear hy107
      have H' := Aside0.mk H
      clear H
      go_wp2_with (first | ((with_reducible refine gate_dst (N := 10) rfl ?_); refine Kd.R_make (Kd.int .i64) _ 2 rfl (N := 10) rfl 34 _ _ rfl a0 rfl rfl Try.underlying34 (.int .i64 0) 8 info2 rfl (by decide) (by omega) 0 (ok := fun _ => True) (okp := fun _ => True) rfl (fun _ hk => hk) trivial oD (Nat.le_trans (Nat.mul_le_mul_right _ (oD : a0.toNat ≤ 35184372088832)) (by omega)) (Below.refl _ _) (Nat.le_refl _) ?_; intro v105 w8 ho9 hb hg_ hnew_; clear hg_ hnew_; (first | rw [← Ny104.out] at ho9 | (simp only [Int.reduceToNat] at ho9; rw [← Ny104.out] at ho9)); have n0_ := Aside0.mk (Kd.S_elder' (by (with_reducible repeat (first | apply Kd.S_alloc | apply Kd.S_drewN | apply Kd.S_drew)); exact HO_3.out) (Kd.R_base ho9) hb); have n1_ := Aside0.mk (Kd.R_lower ho9 (below_size bl)); have n2_ := Aside0.mk (below_step bl hb); clear HO_3; clear HB; have HO_3 := n0_; have HO106 := n1_; have HB := n2_; clear n0_ n1_ n2_; clear hb ho9; obtain ⟨Ao11, co11, eo11⟩ := Kd.R_slice HO106.out; subst eo11) | ((with_reducible refine gate_builtin (b := .append) (xs := #[.tmp 8, .tmp 11]) rfl ?_); at_builtin; refine Kd.S_append (Kd.slice 2 (Kd.int .i64)) (w0 := w) w.heap.size rfl (.tmp 8) (.tmp 11) 22 34 (.slice none 0 0) 24 rfl Try.underlying22 info34 rfl (by decide) (by omega) u3 x3_1 y104 [.slice Ao11 y104.length co11] (fun _ => True) (fun k_ => some k_ = (.slice Ao11 y104.length co11 : Value).ownBlock) rfl rfl ?aP (fun k_ hk_ => ((Kd.R_mono (ok' := fun k_ => ((fun _ => True)) k_ ∧ some k_ ≠ (u3 : Value).ownBlock) (Kd.R_apart' (HO106.out) (Kd.S_typed HO_3.out) (by decide)) (fun k_ hk => ⟨trivial, hk.2⟩))).1 k_ hk_.symm) ?aF ?aO ?aB ?aS ?aL ?_; (case aP => exact Kd.M_row (Kd.R_mono (Kd.R_tight rfl (Kd.R_mono (ok' := fun k_ => ((fun _ => True)) k_ ∧ some k_ ≠ (u3 : Value).ownBlock) (Kd.R_apart' (HO106.out) (Kd.S_typed HO_3.out) (by decide)) (fun k_ hk => ⟨trivial, hk.2⟩))) (fun _ h_ => h_))); (case aB => exact bl); (case aF => exact (fun _ _ => trivial)); (case aO => exact (by (with_reducible repeat (first | apply Kd.S_alloc | apply Kd.S_drewN | apply Kd.S_drew)); exact Kd.S_mono HO_3.out (fun k_ hk => ⟨trivial, fun e_ => hk.2 e_⟩))); (case aS => exact (below_size bl)); (case aL => have := LMc7.out; omega); intro v108 w10 ho hb hg hat; rw [← Ny107.out] at ho; have n0_ := Aside0.mk (hb); have n1_ := Aside0.mk (ho); clear HB; clear HO_3; clear HO106; have HB := n0_; have HO109 := n1_; clear n0_ n1_; clear ho hb hg hat))
      go_roundg k1
      case measure => have := HK1.out; omega
      case rel => exact ⟨(y107), (wrap64 (x6_1 + 1)), rs, H', ⟨by have := HK1.out; omega⟩, ⟨by (with_reducible repeat (first | apply Kd.S_alloc | apply Kd.S_drewN | apply Kd.S_drew)); exact HO109.out⟩, ⟨bl⟩⟩
end Go.Proofs.Ytbfmnhgpmpnglaa.C
