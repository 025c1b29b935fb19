/- The functions that one law reaches, each as a Lean function, and that Go's call comes to what it says. Condition of each: that the Lean function answers (is not none). -/
import Derived.Test.YtpckiapngjcijaaGx0
import Derived.Test.YtpckiapngjcijaaGx9
namespace Go.Proofs.Ytpckiapngjcijaa.G
open Go.RowKit Go.Proofs.YtpckiapngjcijaaW.PrintWords Go.Proofs.YtpckiapngjcijaaW.PrintLast Go.Proofs.YtpckiapngjcijaaW.PrintMore
attribute [local go_sem] max2_int min2_int max_two min_two max_three min_three max_four min_four   -- for this text's walks alone
set_option linter.unusedVariables false
set_option linter.unusedSimpArgs false

/-! ### impl_Graph_signedLaplacian: function 108 -/
mutual
def impl_Graph_signedLaplacian.l0 : Nat → List Int → List (List Int) → List Int → Int → Int → Int → List (List Int) → Option ((List (List Int)))
  | 0, _, _, _, _, _, _, _ => none
  | k + 1, x1, x5, x6, x17, x18, x102000, x102001 => if x18 < x17 then (if 0 ≤ x18 then (if x18 < (x6.length : Int) then (if x18 < (x5.length : Int) then (if x18 < ((rd_L1 x5 x18).length : Int) then (impl_Graph_signedLaplacian.l0 k x1 (x5.set (x18 : Int).toNat ((rd_L1 x5 x18).set (x18 : Int).toNat (rd x6 x18))) x6 x17 (wrap64 (x18 + 1)) x102000 x102001) else (none)) else (none)) else (none)) else (none)) else (impl_Graph_signedLaplacian.l1 k x1 x5 x102001 (x102001.length : Int) 0)
def impl_Graph_signedLaplacian.l1 : Nat → List Int → List (List Int) → List (List Int) → Int → Int → Option ((List (List Int)))
  | 0, _, _, _, _, _ => none
  | k + 1, x1, x5, x32, x33, x34 => if x34 < x33 then (if 0 ≤ x34 then (if x34 < (x32.length : Int) then (if 0 < ((rd_L1 x32 x34).length : Int) then (if 0 ≤ (rd (rd_L1 x32 x34) 0) then (if (rd (rd_L1 x32 x34) 0) < (x5.length : Int) then (if 1 < ((rd_L1 x32 x34).length : Int) then (if 0 ≤ (rd (rd_L1 x32 x34) 1) then (if (rd (rd_L1 x32 x34) 1) < ((rd_L1 x5 (rd (rd_L1 x32 x34) 0)).length : Int) then (if x34 < (x1.length : Int) then ((some (x5.set ((rd (rd_L1 x32 x34) 0) : Int).toNat ((rd_L1 x5 (rd (rd_L1 x32 x34) 0)).set ((rd (rd_L1 x32 x34) 1) : Int).toNat (wrap64 ((rd (rd_L1 x5 (rd (rd_L1 x32 x34) 0)) (rd (rd_L1 x32 x34) 1)) - (rd x1 x34)))) : List (List Int))).bind fun y121 => (if (rd (rd_L1 x32 x34) 1) < (x5.length : Int) then (if (rd (rd_L1 x32 x34) 0) < ((rd_L1 y121 (rd (rd_L1 x32 x34) 1)).length : Int) then (impl_Graph_signedLaplacian.l1 k x1 (y121.set ((rd (rd_L1 x32 x34) 1) : Int).toNat ((rd_L1 y121 (rd (rd_L1 x32 x34) 1)).set ((rd (rd_L1 x32 x34) 0) : Int).toNat (wrap64 ((rd (rd_L1 y121 (rd (rd_L1 x32 x34) 1)) (rd (rd_L1 x32 x34) 0)) - (rd x1 x34))))) x32 x33 (wrap64 (x34 + 1))) else (none)) else (none))) else (none)) else (none)) else (none)) else (none)) else (none)) else (none)) else (none)) else (none)) else (none)) else (some x5)
end
def impl_Graph_signedLaplacian.f (k : Nat) (a0_0 : Int) (l0_1 : List (List Int)) (l1 : List Int) : Option ((List (List Int))) := (impl_square.f k a0_0).bind fun t102 => ((impl_Graph_degrees.f k a0_0 l0_1).bind fun t105 => (impl_Graph_signedLaplacian.l0 k l1 t102 t105 (t105.length : Int) 0 a0_0 l0_1))
theorem impl_Graph_signedLaplacian.mono_l : ∀ k, (∀ y0 y1 y2 y3 y4 y5 y6, LeO (impl_Graph_signedLaplacian.l0 k y0 y1 y2 y3 y4 y5 y6) (impl_Graph_signedLaplacian.l0 (k + 1) y0 y1 y2 y3 y4 y5 y6)) ∧ (∀ y0 y1 y2 y3 y4, LeO (impl_Graph_signedLaplacian.l1 k y0 y1 y2 y3 y4) (impl_Graph_signedLaplacian.l1 (k + 1) y0 y1 y2 y3 y4))
  | 0 => ⟨fun _ _ _ _ _ _ _ r h => by simp [impl_Graph_signedLaplacian.l0] at h, fun _ _ _ _ _ r h => by simp [impl_Graph_signedLaplacian.l1] at h⟩
  | k + 1 => by
    obtain ⟨ih0, ih1⟩ := impl_Graph_signedLaplacian.mono_l k
    refine ⟨?_, ?_⟩
    · intro y0 y1 y2 y3 y4 y5 y6
      unfold impl_Graph_signedLaplacian.l0
      repeat' first
      | (with_reducible exact ih0 _ _ _ _ _ _ _)
      | (with_reducible exact ih1 _ _ _ _ _)
      | (with_reducible exact impl_Graph_degrees.mono _ _ _)
      | (with_reducible exact impl_square.mono _ _)
      | (with_reducible exact LeO.refl _)
      | (with_reducible exact LeO.none _)
      | (with_reducible refine LeO.ite ?_ ?_)
      | (with_reducible refine LeO.bind ?_ (fun _ => ?_))
      | exact ih0 _ _ _ _ _ _ _
      | exact ih1 _ _ _ _ _
      | exact impl_Graph_degrees.mono _ _ _
      | exact impl_square.mono _ _
      | exact LeO.none _
      | refine LeO.ite ?_ ?_
      | refine LeO.bind ?_ (fun _ => ?_)
    · intro y0 y1 y2 y3 y4
      unfold impl_Graph_signedLaplacian.l1
      repeat' first
      | (with_reducible exact ih0 _ _ _ _ _ _ _)
      | (with_reducible exact ih1 _ _ _ _ _)
      | (with_reducible exact impl_Graph_degrees.mono _ _ _)
      | (with_reducible exact impl_square.mono _ _)
      | (with_reducible exact LeO.refl _)
      | (with_reducible exact LeO.none _)
      | (with_reducible refine LeO.ite ?_ ?_)
      | (with_reducible refine LeO.bind ?_ (fun _ => ?_))
      | exact ih0 _ _ _ _ _ _ _
      | exact ih1 _ _ _ _ _
      | exact impl_Graph_degrees.mono _ _ _
      | exact impl_square.mono _ _
      | exact LeO.none _
      | refine LeO.ite ?_ ?_
      | refine LeO.bind ?_ (fun _ => ?_)
theorem impl_Graph_signedLaplacian.mono : ∀ a0 a1 a2 k, LeO (impl_Graph_signedLaplacian.f k a0 a1 a2) (impl_Graph_signedLaplacian.f (k + 1) a0 a1 a2) := by
  intro a0 a1 a2 k
  obtain ⟨ih0, ih1⟩ := impl_Graph_signedLaplacian.mono_l k
  unfold impl_Graph_signedLaplacian.f
  repeat' first
      | (with_reducible exact ih0 _ _ _ _ _ _ _)
      | (with_reducible exact ih1 _ _ _ _ _)
      | (with_reducible exact impl_Graph_degrees.mono _ _ _)
      | (with_reducible exact impl_square.mono _ _)
      | (with_reducible exact LeO.refl _)
      | (with_reducible exact LeO.none _)
      | (with_reducible refine LeO.ite ?_ ?_)
      | (with_reducible refine LeO.bind ?_ (fun _ => ?_))
      | exact ih0 _ _ _ _ _ _ _
      | exact ih1 _ _ _ _ _
      | exact impl_Graph_degrees.mono _ _ _
      | exact impl_square.mono _ _
      | exact LeO.none _
      | refine LeO.ite ?_ ?_
      | refine LeO.bind ?_ (fun _ => ?_)
def impl_Graph_signedLaplacian.T10 : Bool × List (List Nat × List Nat) := (true, [([], []), ([], []), ([1], [1]), ([2], [2]), ([0, 3], [0, 3]), ([4], [4]), ([], []), ([6], [6]), ([7], [7]), ([5, 8], [5, 8]), ([9], [9]), ([], []), ([], []), ([11, 12], [11, 12]), ([13], [13]), ([10, 14], [10, 14]), ([5, 8, 0, 1, 2, 3, 4, 5, 6, 7, 8, 9, 10, 11, 12, 13, 14, 15], [5, 8]), ([16, 15, 0, 1, 2, 3, 4, 5, 6, 7, 8, 9, 10, 11, 12, 13, 14, 15], [15, 16])])
def impl_Graph_signedLaplacian.B10 : List Nat := [0, 0, 2, 6, 15, 31, 0, 64, 192, 511, 1023, 0, 0, 6144, 14336, 32767, 65535, 131071]
theorem impl_Graph_signedLaplacian.tab10 : rtab .any (opsOf Try.f108 10) = impl_Graph_signedLaplacian.T10 := by kernel_rfl
theorem impl_Graph_signedLaplacian.bits10 : waitsOk impl_Graph_signedLaplacian.T10.2 impl_Graph_signedLaplacian.B10 = true := by kernel_rfl
def impl_Graph_signedLaplacian.T11 : Bool × List (List Nat × List Nat) := (true, [([], []), ([], []), ([1], [1]), ([2], [2]), ([0, 3], [0, 3]), ([4], [4]), ([], []), ([6], [6]), ([7], [7]), ([5, 8], [5, 8]), ([9], [9]), ([], []), ([], []), ([11, 12], [11, 12]), ([13], [13]), ([10, 14], [10, 14]), ([5, 8, 0, 1, 2, 3, 4, 5, 6, 7, 8, 9, 10, 11, 12, 13, 14, 15], [5, 8]), ([16, 15, 0, 1, 2, 3, 4, 5, 6, 7, 8, 9, 10, 11, 12, 13, 14, 15], [15, 16])])
def impl_Graph_signedLaplacian.B11 : List Nat := [0, 0, 2, 6, 15, 31, 0, 64, 192, 511, 1023, 0, 0, 6144, 14336, 32767, 65535, 131071]
theorem impl_Graph_signedLaplacian.tab11 : rtab .any (opsOf Try.f108 11) = impl_Graph_signedLaplacian.T11 := by kernel_rfl
theorem impl_Graph_signedLaplacian.bits11 : waitsOk impl_Graph_signedLaplacian.T11.2 impl_Graph_signedLaplacian.B11 = true := by kernel_rfl
set_option maxHeartbeats 8000000 in
set_option maxRecDepth 100000 in
theorem impl_Graph_signedLaplacian.calls (k : Nat) (a0_0 : Int) (A0_1 : Option Addr) (c0_1 : Nat) (l0_1 : List (List Int)) (A1 : Option Addr) (c1 : Nat) (l1 : List Int) (r : List (List Int)) (w : World) (hr0_1 : Kd.C (Kd.slice 2 (Kd.int .i64)) w A0_1 l0_1.length l0_1) (hc0_1 : l0_1.length ≤ c0_1) (hr1 : Kd.C (Kd.int .i64) w A1 l1.length l1) (hc1 : l1.length ≤ c1) (h : impl_Graph_signedLaplacian.f k a0_0 l0_1 l1 = some r) :
    Calls Try.prog 108 #[.agg #[.int .i64 a0_0, .slice A0_1 l0_1.length c0_1], .slice A1 l1.length c1] w fun e w' => ∃ v0_ : Value, e = .returned (v0_) ∧ Kd.S (Kd.slice 2 (Kd.int .i64)) 43 w' w.heap.size (fun _ => True) v0_ r ∧ Below w.heap.size w w' := by
  have hu26 := Try.underlying26
  have HR0_1 := Aside0.mk hr0_1
  have HC0_1 := Aside0.mk hc0_1
  clear hr0_1 hc0_1
  have HR1 := Aside0.mk hr1
  have HC1 := Aside0.mk hc1
  clear hr1 hc1
  have HB := Aside0.mk (Below.refl w.heap.size w)
  have H : ((impl_square.f k a0_0).bind fun t102 => ((impl_Graph_degrees.f k a0_0 l0_1).bind fun t105 => (impl_Graph_signedLaplacian.l0 k l1 t102 t105 (t105.length : Int) 0 a0_0 l0_1))) = some r := h
  clear h
  replace H := Option.bind_eq_some_iff.mp H
  obtain ⟨t102, A30, H⟩ := H
  replace H : ((impl_Graph_degrees.f k a0_0 l0_1).bind fun t105 => (impl_Graph_signedLaplacian.l0 k l1 t102 t105 (t105.length : Int) 0 a0_0 l0_1)) = some r := H
  have A3 := Aside0.mk A30
  clear A30
  replace H := Option.bind_eq_some_iff.mp H
  obtain ⟨t105, A40, H⟩ := H
  replace H : (impl_Graph_signedLaplacian.l0 k l1 t102 t105 (t105.length : Int) 0 a0_0 l0_1) = some r := H
  have A4 := Aside0.mk A40
  clear A40
  have H' := Aside0.mk H
  clear H
  go_enter Try.func108, Try.ntmps108
  try go_wp2_with (first | ((with_reducible refine gate_dst (N := 2) rfl ?_); refine box_event ?hg (N := 2) ?hd (cs := #[.int .i64 a0_0, .slice A0_1 l0_1.length c0_1]) (t := 26) ?hr ?_; (case hd => rfl); (case hg => rfl); (case hr => first | (go_simp; done) | (go_simp; rfl)); intro gb101 hg w5 hbox hb; have n0_ := Aside0.mk (below_step bl hb); have n1_ := Aside0.mk (hbox); have n2_ := Aside0.mk ((by rw [hg]; exact (below_size bl) : w.heap.size ≤ gb101)); have n3_ := Aside0.mk ((by rw [hg]; exact (below_size bl) : w.heap.size ≤ gb101)); clear HB; have HB := n0_; have BK101 := n1_; have GW101 := n2_; have GE101 := n3_; clear n0_ n1_ n2_ n3_; clear hb hbox hg))
  have n0_ := Aside0.mk (blk_drew BK101.out)
  have n1_ := Aside0.mk (below_drew1 HB.out)
  clear BK101
  clear HB
  have BK101 := n0_
  have HB := n1_
  clear n0_ n1_
  refine start_ (n := 7) (S := fun w' => w'.cell? ⟨gb101, 0, none⟩ = some (.int .i64 a0_0) ∧ w'.cell? ⟨gb101, 1, none⟩ = some (.slice A0_1 l0_1.length c0_1)) (ds := []) #[false, false, false, false, false, false, false] (by kernel_rfl) rfl rfl ⟨(blk_cell BK101.out 0).trans rfl, (blk_cell BK101.out 1).trans rfl⟩ (fun hHeld => ?_)
  generalize w5.drew = w6 at BK101 HB hHeld ⊢
  refine pure_ (i := 0) (N := some 11) (v := ?_) (a' := ?_) #[true, false, false, false, false, false, false] rfl rfl (by kernel_rfl) (fun _ _ _ h => h) (Or.inl ⟨by rfl, ?_⟩) ?_ ?_
  rotate_left; · intro w'; go_simp; with_reducible rfl
  rotate_left; · simp only [Act.put, zI, zZ, zS, i64_w, i32_w]; rfl
  refine take_ (i := 1) (N := some 12) (v := ?_) (a' := ?_) #[true, true, false, false, false, false, false] rfl rfl (by kernel_rfl) (fun _ _ _ h => h) (Or.inl ⟨by rfl, ?_⟩) hHeld ?_ ?_
  rotate_left; · rintro w' ⟨s0, s1⟩; go_simp; with_reducible rfl
  rotate_left; · simp only [Act.put, zI, zZ, zS, i64_w, i32_w]; rfl
  refine take_ (i := 3) (N := some 14) (v := ?_) (a' := ?_) #[true, true, false, true, false, false, false] rfl rfl (by kernel_rfl) (fun _ _ _ h => h) (Or.inl ⟨by rfl, ?_⟩) hHeld ?_ ?_
  rotate_left; · rintro w' ⟨s0, s1⟩; go_simp; with_reducible rfl
  rotate_left; · simp only [Act.put, zI, zZ, zS, i64_w, i32_w]; rfl
  refine one_ (i := 2) (N := some 13) #[true, true, true, true, false, false, false] rfl rfl (by kernel_rfl) (by decide) (fun K hK => ?_)
  refine goes_ Try.func155 (by kernel_rfl) rfl #[.int .i64 a0_0] (by rfl) rfl rfl gm ?_
  with_reducible refine (impl_square.calls k a0_0 t102 _ A3.out).mono ?_
  rintro e w7 ⟨v103, rfl, ho0, hb⟩
  refine ⟨_, rfl, ?_⟩
  have n0_ := Aside0.mk (Kd.S_lower ho0 (below_size bl))
  have n1_ := Aside0.mk (blk_below (g := gb101) (o := .cells #[.int .i64 a0_0, .slice A0_1 l0_1.length c0_1] 26 (0, 0)) bk hb)
  have n2_ := Aside0.mk (below_step bl hb)
  clear BK101
  clear HB
  have HO104 := n0_
  have BK101 := n1_
  have HB := n2_
  clear n0_ n1_ n2_
  (try clear hb)
  (try clear hb2)
  (try clear hk)
  (try clear hi)
  (try clear ho0)
  refine hK.out _ _ ⟨(blk_cell BK101.out 0).trans rfl, (blk_cell BK101.out 1).trans rfl⟩ (fun hHeld => ?_)
  clear hK K
  refine norm_ (a' := ?_) ?_ ?_
  rotate_left; · show Act.put _ (some 13) _ = _; simp only [Act.put, zI, zZ, zS, i64_w, i32_w]; rfl
  refine one_ (i := 4) (N := some 15) #[true, true, true, true, true, false, false] rfl rfl (by kernel_rfl) (by decide) (fun K hK => ?_)
  refine goes_ Try.func60 (by kernel_rfl) rfl #[.agg #[.int .i64 a0_0, .slice A0_1 l0_1.length c0_1]] (by rfl) rfl rfl gm ?_
  with_reducible refine (impl_Graph_degrees.calls k a0_0 _ _ l0_1 t105 _ ?side1 ?side2 A4.out).mono ?_
  (case side1 => repeat (first | exact (Kd.C_below HR0_1.out HB.out) | (with_reducible refine Kd.C_alloc ?_ _) | (with_reducible refine Kd.C_drewN ?_ _) | (with_reducible refine Kd.C_drew ?_)))
  (case side2 => exact HC0_1.out)
  rintro e w8 ⟨v106, rfl, ho0, hb⟩
  refine ⟨_, rfl, ?_⟩
  have n0_ := Aside0.mk (Kd.S_elder' (by (with_reducible repeat (first | apply Kd.S_alloc | apply Kd.S_drewN | apply Kd.S_drew)); exact HO104.out) (Kd.R_base ho0) hb)
  have n1_ := Aside0.mk (Kd.R_lower ho0 (below_size bl))
  have n2_ := Aside0.mk (blk_below (g := gb101) (o := .cells #[.int .i64 a0_0, .slice A0_1 l0_1.length c0_1] 26 (0, 0)) bk hb)
  have n3_ := Aside0.mk (below_step bl hb)
  clear HO104
  clear BK101
  clear HB
  have HO104 := n0_
  have HO107 := n1_
  have BK101 := n2_
  have HB := n3_
  clear n0_ n1_ n2_ n3_
  (try clear hb)
  (try clear hb2)
  (try clear hk)
  (try clear hi)
  (try clear ho0)
  refine hK.out _ _ ⟨(blk_cell BK101.out 0).trans rfl, (blk_cell BK101.out 1).trans rfl⟩ (fun hHeld => ?_)
  clear hK K
  refine norm_ (a' := ?_) ?_ ?_
  rotate_left; · show Act.put _ (some 15) _ = _; simp only [Act.put, zI, zZ, zS, i64_w, i32_w]; rfl
  refine pure_ (i := 5) (N := some 5) (v := ?_) (a' := ?_) #[true, true, true, true, true, true, false] rfl rfl (by kernel_rfl) (fun _ _ _ h => h) (Or.inl ⟨by rfl, ?_⟩) ?_ ?_
  rotate_left; · intro w'; go_simp; with_reducible rfl
  rotate_left; · simp only [Act.put, zI, zZ, zS, i64_w, i32_w]; rfl
  refine pure_ (i := 6) (N := some 6) (v := ?_) (a' := ?_) #[true, true, true, true, true, true, true] rfl rfl (by kernel_rfl) (fun _ _ _ h => h) (Or.inl ⟨by rfl, ?_⟩) ?_ ?_
  rotate_left; · intro w'; go_simp; with_reducible rfl
  rotate_left; · simp only [Act.put, zI, zZ, zS, i64_w, i32_w]; rfl
  refine done_ (by kernel_rfl) ?_
  obtain ⟨Ao9, co9, eo9⟩ := Kd.R_slice HO107.out
  subst eo9
  try go_wp2
  go_loopg [18] k (fun kq v18 w' => ∃ (x5_1 : List (List Int)) (x6_1 : List Int) (x18_1 : Int), v18 = .int .i64 x18_1 ∧ Aside0 (impl_Graph_signedLaplacian.l0 kq l1 x5_1 x6_1 (t105.length : Int) x18_1 a0_0 l0_1 = some r) ∧ Aside0 (kq ≤ k) ∧ Aside0 (Kd.S (Kd.slice 2 (Kd.int .i64)) 43 w' w.heap.size (fun k_ => some k_ ≠ ((.slice Ao9 t105.length co9) : Value).ownBlock) v103 x5_1) ∧ Aside0 (Kd.R (Kd.int .i64) 2 w' w.heap.size (fun _ => True) (.slice Ao9 t105.length co9) x6_1) ∧ Aside0 (w'.heap[gb101]? = some (.cells #[.int .i64 a0_0, (.slice A0_1 l0_1.length c0_1)] 26 (0, 0))) ∧ Aside0 (Below w.heap.size w w'))
  case atStart => exact ⟨(t102), (t105), (0), rs, H', ⟨Nat.le_refl _⟩, ⟨by (with_reducible repeat (first | apply Kd.S_alloc | apply Kd.S_drewN | apply Kd.S_drew)); exact Kd.S_mono HO104.out (fun _ hk => hk.2)⟩, ⟨by (with_reducible repeat (first | apply Kd.R_alloc | apply Kd.R_drewN | apply Kd.R_drew)); exact HO107.out⟩, ⟨bk⟩, ⟨bl⟩⟩
  case round =>
    clear H'
    (try clear c1); (try clear p2); (try clear c6)
    obtain ⟨x5_1, x6_1, x18_1, rfl, HA, HK1, HO_5, HO_6, BK101, HB⟩ := hrel
    have hl6_1 := (Kd.R_reads' HO_6.out).1
    rw [hl6_1] at HO_6
    (try simp only [hl6_1])
    (try simp only [hl6_1] at BK101)
    (try simp only [hl6_1] at HO_5)
    cases gk with
    | zero => exact absurd HA.out (by simp [impl_Graph_signedLaplacian.l0])
    | succ k1 =>
      have H := HA.out
      clear HA
      simp only [impl_Graph_signedLaplacian.l0] at H
      by_cases c10 : x18_1 < (t105.length : Int)
      case neg =>
        rw [if_neg c10] at H
        have c10b0 : decide (x18_1 < (t105.length : Int)) = false := decide_eq_false c10
        (try simp only [hl6_1] at c10b0)
        clear c10
        have H' := Aside0.mk H
        clear H
        have hcz19_0 : wr.cell? ⟨gb101, 0, none⟩ = some (.int .i64 a0_0) := (blk_cell BK101.out 0).trans rfl
        have hcz19_1 : wr.cell? ⟨gb101, 1, none⟩ = some (.slice A0_1 l0_1.length c0_1) := (blk_cell BK101.out 1).trans rfl
        have hfz19_0 := blk_frozen BK101.out 0
        have hfz19_1 := blk_frozen BK101.out 1
        go_wp2
        go_loopg [34] k1 (fun kq v34 w' => ∃ (x5_2 : List (List Int)) (x34_2 : Int), v34 = .int .i64 x34_2 ∧ Aside0 (impl_Graph_signedLaplacian.l1 kq l1 x5_2 l0_1 (l0_1.length : Int) x34_2 = some r) ∧ Aside0 (kq ≤ k1) ∧ Aside0 (Kd.S (Kd.slice 2 (Kd.int .i64)) 43 w' w.heap.size (fun _ => True) v103 x5_2) ∧ Aside0 (w'.heap[gb101]? = some (.cells #[.int .i64 a0_0, (.slice A0_1 l0_1.length c0_1)] 26 (0, 0))) ∧ Aside0 (Below w.heap.size w w'))
        case atStart => exact ⟨(x5_1), (0), rs, H', ⟨Nat.le_refl _⟩, ⟨by (try simp only [hl6_1]); (with_reducible repeat (first | apply Kd.S_alloc | apply Kd.S_drewN | apply Kd.S_drew)); exact Kd.S_mono HO_5.out (fun _ hk => trivial)⟩, ⟨by (try simp only [hl6_1]); (with_reducible repeat (first | refine blk_drewN ?_ _ | refine blk_drew ?_ | refine blk_alloc ?_ _)); exact BK101.out⟩, ⟨bl⟩⟩
        case round =>
          clear H'
          (try clear c1); (try clear p1); (try clear q1); (try clear hx1); (try clear p2); (try clear c6); (try clear p6); (try clear c10); (try clear c10b0); (try clear p10); (try clear q10); (try clear hx10); (try clear c11); (try clear c11b0); (try clear c12); (try clear c12b0); (try clear c13); (try clear c13b0); (try clear c14); (try clear c14b0); (try clear c15); (try clear p15); (try clear q15); (try clear hx15); (try clear hf15); (try clear c17); (try clear q17); (try clear hcz19_0); (try clear hcz19_1); (try clear hfz19_0); (try clear hfz19_1); (try clear hx108_0); (try clear hx109_0); (try clear hx15_0); (try clear p108); (try clear p109); (try clear p15); (try clear p2); (try clear q108); (try clear q109); (try clear q15)
          obtain ⟨x5_2, x34_2, rfl, HA, HK2, HO_5, BK101, HB⟩ := hrel
          cases gk with
          | zero => exact absurd HA.out (by simp [impl_Graph_signedLaplacian.l1])
          | succ k2 =>
            have H := HA.out
            clear HA
            simp only [impl_Graph_signedLaplacian.l1] at H
            by_cases c20 : x34_2 < (l0_1.length : Int)
            case neg =>
              rw [if_neg c20] at H
              have c20b0 : decide (x34_2 < (l0_1.length : Int)) = false := decide_eq_false c20
              (try simp only [hl6_1] at c20b0)
              clear c20
              obtain rfl := Option.some.inj H
              go_wp2
              go_ret
              exact ⟨_, by first | rfl | (simp [errW_none, errW_some] <;> rfl) | (simp [*, errW_none, errW_some] <;> rfl), by (with_reducible repeat (first | apply Kd.S_alloc | apply Kd.S_drewN | apply Kd.S_drew)); exact HO_5.out, bl⟩
            rw [if_pos c20] at H
            have c20b0 : decide (x34_2 < (l0_1.length : Int)) = true := decide_eq_true c20
            (try simp only [hl6_1] at c20b0)
            clear c20
            by_cases c21 : 0 ≤ x34_2
            case neg => rw [if_neg c21] at H; exact absurd H (by simp)
            rw [if_pos c21] at H
            have c21b0 : decide (0 ≤ x34_2) = true := decide_eq_true c21
            clear c21
            by_cases c22 : x34_2 < (l0_1.length : Int)
            case neg => rw [if_neg c22] at H; exact absurd H (by simp)
            rw [if_pos c22] at H
            have c22b0 : decide (x34_2 < (l0_1.length : Int)) = true := decide_eq_true c22
            (try simp only [hl6_1] at c22b0)
            clear c22
            by_cases c23 : 0 < ((rd_L1 l0_1 x34_2).length : Int)
            case neg => rw [if_neg c23] at H; exact absurd H (by simp)
            rw [if_pos c23] at H
            have c23b0 : decide (0 < ((rd_L1 l0_1 x34_2).length : Int)) = true := decide_eq_true c23
            (try simp only [hl6_1] at c23b0)
            have c23b1 : decide (0 < (rd_L1 l0_1 x34_2).length) = true := decide_eq_true (by omega)
            (try simp only [hl6_1] at c23b1)
            clear c23
            by_cases c24 : 0 ≤ (rd (rd_L1 l0_1 x34_2) 0)
            case neg => rw [if_neg c24] at H; exact absurd H (by simp)
            rw [if_pos c24] at H
            have c24b0 : decide (0 ≤ (rd (rd_L1 l0_1 x34_2) 0)) = true := decide_eq_true c24
            clear c24
            by_cases c25 : (rd (rd_L1 l0_1 x34_2) 0) < (x5_2.length : Int)
            case neg => rw [if_neg c25] at H; exact absurd H (by simp)
            rw [if_pos c25] at H
            have c25b0 : decide ((rd (rd_L1 l0_1 x34_2) 0) < (x5_2.length : Int)) = true := decide_eq_true c25
            (try simp only [hl6_1] at c25b0)
            clear c25
            by_cases c26 : 1 < ((rd_L1 l0_1 x34_2).length : Int)
            case neg => rw [if_neg c26] at H; exact absurd H (by simp)
            rw [if_pos c26] at H
            have c26b0 : decide (1 < ((rd_L1 l0_1 x34_2).length : Int)) = true := decide_eq_true c26
            (try simp only [hl6_1] at c26b0)
            have c26b1 : decide (1 < (rd_L1 l0_1 x34_2).length) = true := decide_eq_true (by omega)
            (try simp only [hl6_1] at c26b1)
            clear c26
            by_cases c27 : 0 ≤ (rd (rd_L1 l0_1 x34_2) 1)
            case neg => rw [if_neg c27] at H; exact absurd H (by simp)
            rw [if_pos c27] at H
            have c27b0 : decide (0 ≤ (rd (rd_L1 l0_1 x34_2) 1)) = true := decide_eq_true c27
            clear c27
            by_cases c28 : (rd (rd_L1 l0_1 x34_2) 1) < ((rd_L1 x5_2 (rd (rd_L1 l0_1 x34_2) 0)).length : Int)
            case neg => rw [if_neg c28] at H; exact absurd H (by simp)
            rw [if_pos c28] at H
            have c28b0 : decide ((rd (rd_L1 l0_1 x34_2) 1) < ((rd_L1 x5_2 (rd (rd_L1 l0_1 x34_2) 0)).length : Int)) = true := decide_eq_true c28
            (try simp only [hl6_1] at c28b0)
            clear c28
            by_cases c29 : x34_2 < (l1.length : Int)
            case neg => rw [if_neg c29] at H; exact absurd H (by simp)
            rw [if_pos c29] at H
            have c29b0 : decide (x34_2 < (l1.length : Int)) = true := decide_eq_true c29
            (try simp only [hl6_1] at c29b0)
            clear c29
            obtain ⟨y119, hy119⟩ : ∃ y_ : List Int, y_ = ((rd_L1 x5_2 (rd (rd_L1 l0_1 x34_2) 0)).set ((rd (rd_L1 l0_1 x34_2) 1) : Int).toNat (wrap64 ((rd (rd_L1 x5_2 (rd (rd_L1 l0_1 x34_2) 0)) (rd (rd_L1 l0_1 x34_2) 1)) - (rd l1 x34_2)))) := ⟨_, rfl⟩
            replace H : ((some (x5_2.set ((rd (rd_L1 l0_1 x34_2) 0) : Int).toNat y119 : List (List Int))).bind fun y121 => (if (rd (rd_L1 l0_1 x34_2) 1) < (x5_2.length : Int) then (if (rd (rd_L1 l0_1 x34_2) 0) < ((rd_L1 y121 (rd (rd_L1 l0_1 x34_2) 1)).length : Int) then (impl_Graph_signedLaplacian.l1 k2 l1 (y121.set ((rd (rd_L1 l0_1 x34_2) 1) : Int).toNat ((rd_L1 y121 (rd (rd_L1 l0_1 x34_2) 1)).set ((rd (rd_L1 l0_1 x34_2) 0) : Int).toNat (wrap64 ((rd (rd_L1 y121 (rd (rd_L1 l0_1 x34_2) 1)) (rd (rd_L1 l0_1 x34_2) 0)) - (rd l1 x34_2))))) l0_1 (l0_1.length : Int) (wrap64 (x34_2 + 1))) else (none)) else (none))) = some r := by first | (rw [hy119]; with_reducible exact H) | (have H2_ := (Option.bind_some _ _).symm.trans H; rw [hy119]; with_reducible exact H2_) | (have H2_ := (Option.bind_some _ _).symm.trans H; with_reducible exact H2_) | with_reducible exact H | (rw [hy119]; exact H) | exact H
            have Ny119 := Aside0.mk hy119
            clear hy119
            obtain ⟨y121, hy121⟩ : ∃ y_ : List (List Int), y_ = (x5_2.set ((rd (rd_L1 l0_1 x34_2) 0) : Int).toNat y119) := ⟨_, rfl⟩
            replace H : (if (rd (rd_L1 l0_1 x34_2) 1) < (x5_2.length : Int) then (if (rd (rd_L1 l0_1 x34_2) 0) < ((rd_L1 y121 (rd (rd_L1 l0_1 x34_2) 1)).length : Int) then (impl_Graph_signedLaplacian.l1 k2 l1 (y121.set ((rd (rd_L1 l0_1 x34_2) 1) : Int).toNat ((rd_L1 y121 (rd (rd_L1 l0_1 x34_2) 1)).set ((rd (rd_L1 l0_1 x34_2) 0) : Int).toNat (wrap64 ((rd (rd_L1 y121 (rd (rd_L1 l0_1 x34_2) 1)) (rd (rd_L1 l0_1 x34_2) 0)) - (rd l1 x34_2))))) l0_1 (l0_1.length : Int) (wrap64 (x34_2 + 1))) else (none)) else (none)) = some r := by first | (rw [hy121]; with_reducible exact H) | (have H2_ := (Option.bind_some _ _).symm.trans H; rw [hy121]; with_reducible exact H2_) | (have H2_ := (Option.bind_some _ _).symm.trans H; with_reducible exact H2_) | with_reducible exact H | (rw [hy121]; exact H) | exact H
            have Ny121 := Aside0.mk hy121
            clear hy121
            by_cases c31 : (rd (rd_L1 l0_1 x34_2) 1) < (x5_2.length : Int)
            case neg => rw [if_neg c31] at H; exact absurd H (by simp)
            rw [if_pos c31] at H
            have c31b0 : decide ((rd (rd_L1 l0_1 x34_2) 1) < (x5_2.length : Int)) = true := decide_eq_true c31
            (try simp only [hl6_1] at c31b0)
            clear c31
            by_cases c32 : (rd (rd_L1 l0_1 x34_2) 0) < ((rd_L1 y121 (rd (rd_L1 l0_1 x34_2) 1)).length : Int)
            case neg => rw [if_neg c32] at H; exact absurd H (by simp)
            rw [if_pos c32] at H
            have c32b0 : decide ((rd (rd_L1 l0_1 x34_2) 0) < ((rd_L1 y121 (rd (rd_L1 l0_1 x34_2) 1)).length : Int)) = true := decide_eq_true c32
            (try simp only [hl6_1] at c32b0)
            clear c32
            obtain ⟨y127, hy127⟩ : ∃ y_ : List Int, y_ = ((rd_L1 y121 (rd (rd_L1 l0_1 x34_2) 1)).set ((rd (rd_L1 l0_1 x34_2) 0) : Int).toNat (wrap64 ((rd (rd_L1 y121 (rd (rd_L1 l0_1 x34_2) 1)) (rd (rd_L1 l0_1 x34_2) 0)) - (rd l1 x34_2)))) := ⟨_, rfl⟩
            replace H : (impl_Graph_signedLaplacian.l1 k2 l1 (y121.set ((rd (rd_L1 l0_1 x34_2) 1) : Int).toNat y127) l0_1 (l0_1.length : Int) (wrap64 (x34_2 + 1))) = some r := by first | (rw [hy127]; with_reducible exact H) | (have H2_ := (Option.bind_some _ _).symm.trans H; rw [hy127]; with_reducible exact H2_) | (have H2_ := (Option.bind_some _ _).symm.trans H; with_reducible exact H2_) | with_reducible exact H | (rw [hy127]; exact H) | exact H
            have Ny127 := Aside0.mk hy127
            clear hy127
            obtain ⟨y129, hy129⟩ : ∃ y_ : List (List Int), y_ = (y121.set ((rd (rd_L1 l0_1 x34_2) 1) : Int).toNat y127) := ⟨_, rfl⟩
            replace H : (impl_Graph_signedLaplacian.l1 k2 l1 y129 l0_1 (l0_1.length : Int) (wrap64 (x34_2 + 1))) = some r := by first | (rw [hy129]; with_reducible exact H) | (have H2_ := (Option.bind_some _ _).symm.trans H; rw [hy129]; with_reducible exact H2_) | (have H2_ := (Option.bind_some _ _).symm.trans H; with_reducible exact H2_) | with_reducible exact H | (rw [hy129]; exact H) | exact H
            have Ny129 := Aside0.mk hy129
            clear hy129
            have H' := Aside0.mk H
            clear H
            have p113 : 0 ≤ (x34_2 : Int) := oD
            have q113 : x34_2 < (l0_1.length : Int) := oD
            obtain ⟨ad113, A113_0, c113_0, e113, hx113_0, hl113_0, hi113_0⟩ := at_L1 HR0_1.out x34_2 p113 q113
            cases e113
            replace hx113_0 := hbc HB hx113_0
            have HR113_0 := Aside0.mk hi113_0
            have HC113_0 := Aside0.mk hl113_0
            clear hi113_0 hl113_0
            replace p113 := eq_true p113
            replace q113 := eq_true q113
            try go_wp2
            have n0_ := Aside0.mk (Kd.S_drew HO_5.out)
            have n1_ := Aside0.mk (blk_drew BK101.out)
            have n2_ := Aside0.mk (below_drew1 HB.out)
            clear HO_5
            clear BK101
            clear HB
            have HO_5 := n0_
            have BK101 := n1_
            have HB := n2_
            clear n0_ n1_ n2_
            have p114 : 0 ≤ (0 : Int) := (by omega)
            have q114 : 0 < ((rd_L1 l0_1 x34_2).length : Int) := oD
            obtain ⟨ad114, e114, hx114_0⟩ := Kd.at_int HR113_0.out 0 p114 q114
            have hw114_0 := hx114_0
            (try rw [show ((0 : Int)).toNat = 0 from rfl] at hw114_0)
            (try rw [show 0 * 1 = 0 from rfl] at hw114_0)
            (try rw [Addr.add_zero'] at hw114_0)
            cases e114
            have qi114 : (0 < (rd_L1 l0_1 x34_2).length) = True := eq_true (by omega)
            (try rw [show ((0 : Int)).toNat = 0 from rfl] at hx114_0)
            (try rw [Addr.add_zero'] at hx114_0)
            replace hx114_0 := hbc HB hx114_0
            replace p114 := eq_true p114
            replace q114 := eq_true q114
            obtain ⟨Ao35, co35, eo35⟩ := Kd.S_slice HO_5.out
            (first | subst eo35 | (injection eo35 with f1_ f2_ f3_; have f4_ := f1_.symm; have f5_ := f3_.symm; clear f1_ f2_ f3_; subst f4_; subst f5_))
            have p115 : 0 ≤ ((rd (rd_L1 l0_1 x34_2) 0) : Int) := oD
            have q115 : (rd (rd_L1 l0_1 x34_2) 0) < (x5_2.length : Int) := oD
            obtain ⟨ad115, A115_0, c115_0, e115, hx115_0, hl115_0, hi115_0⟩ := at_L1 (Kd.S_reads' HO_5.out).2.2 (rd (rd_L1 l0_1 x34_2) 0) p115 q115
            cases e115
            obtain ⟨ce115, hce115, hMe115, hcc115⟩ := Kd.S_get HO_5.out [] (rd (rd_L1 l0_1 x34_2) 0) p115 (by first | exact q115 | exact oD | (have e_ := (Kd.S_reads' HO_5.out).1; omega))
            obtain ⟨ve115_0, rfl, ge115_0⟩ := hMe115
            have hv115_0 := hcc115 0 _ rfl
            rw [Nat.add_zero, show ((Kd.slice 2 (Kd.int .i64))).sz = 1 from rfl, Nat.mul_one] at hv115_0
            replace hv115_0 := Option.some.inj (hv115_0.symm.trans hx115_0)
            rw [hv115_0] at ge115_0
            have HL115_0 := Aside0.mk (show Kd.R (Kd.int .i64) 2 _ _ _ _ (rd_L1 x5_2 (rd (rd_L1 l0_1 x34_2) 0)) from ge115_0)
            clear hv115_0 ge115_0
            have HX115_0 := Aside0.mk hx115_0
            clear hcc115 hce115
            have HR115_0 := Aside0.mk hi115_0
            have HC115_0 := Aside0.mk hl115_0
            clear hi115_0 hl115_0
            replace p115 := eq_true p115
            replace q115 := eq_true q115
            have p116 : 0 ≤ (1 : Int) := (by omega)
            have q116 : 1 < ((rd_L1 l0_1 x34_2).length : Int) := oD
            obtain ⟨ad116, e116, hx116_0⟩ := Kd.at_int HR113_0.out 1 p116 q116
            have hw116_0 := hx116_0
            (try rw [show ((1 : Int)).toNat = 1 from rfl] at hw116_0)
            (try rw [show 1 * 1 = 1 from rfl] at hw116_0)
            (try simp only [Nat.reduceMul, Nat.reduceEqDiff, Go.Addr.add, ↓reduceIte] at hw116_0)
            obtain rfl : ad114 = ad116 := (by injection e116)
            (try simp only [show (1 : Int).toNat = 1 from rfl, Nat.reduceMul, Nat.reduceEqDiff, Go.Addr.add, ↓reduceIte] at hx116_0)
            have qi116 : (1 < (rd_L1 l0_1 x34_2).length) = True := eq_true (by omega)
            (try rw [show ((1 : Int)).toNat = 1 from rfl] at hx116_0)
            replace hx116_0 := hbc HB hx116_0
            replace p116 := eq_true p116
            replace q116 := eq_true q116
            have p117 : 0 ≤ ((rd (rd_L1 l0_1 x34_2) 1) : Int) := oD
            have q117 : (rd (rd_L1 l0_1 x34_2) 1) < ((rd_L1 x5_2 (rd (rd_L1 l0_1 x34_2) 0)).length : Int) := oD
            obtain ⟨ad117, e117, hx117_0⟩ := Kd.at_int (by repeat (first | (with_reducible exact HR115_0.out) | (with_reducible refine Kd.C_alloc ?_ _) | (with_reducible refine Kd.C_drewN ?_ _) | (with_reducible refine Kd.C_drew ?_) | exact HR115_0.out)) (rd (rd_L1 l0_1 x34_2) 1) p117 q117
            cases e117
            replace p117 := eq_true p117
            replace q117 := eq_true q117
            have p118 : 0 ≤ (x34_2 : Int) := oD
            have q118 : x34_2 < (l1.length : Int) := oD
            obtain ⟨ad118, e118, hx118_0⟩ := Kd.at_int HR1.out x34_2 p118 q118
            have hw118_0 := hx118_0
            cases e118
            replace hx118_0 := hbc HB hx118_0
            replace p118 := eq_true p118
            replace q118 := eq_true q118
            have p30 : 0 ≤ ((rd (rd_L1 l0_1 x34_2) 1) : Int) := oD
            have q30 : ((rd (rd_L1 l0_1 x34_2) 1) : Int) < (((rd_L1 x5_2 (rd (rd_L1 l0_1 x34_2) 0)).length : Int) : Int) := oD
            obtain ⟨go30, co30, eo30, gb30, gl30, cl30, HG30⟩ := Kd.R_form HL115_0.out (by omega)
            (first | cases eo30 | (injection eo30 with ea_ en_ ec_; (first | subst ea_ | (injection ea_ with ea_; subst ea_)); subst ec_; clear en_))
            (first | simp only [add_plain] at hx117_0 | skip)
            have GB30 := Aside0.mk gb30
            have GG30 := Aside0.mk HG30
            clear gb30 gl30 HG30
            (first | simp only [add_plain] at hx117_0 | skip)
            obtain ⟨hx30_0, hf30_0⟩ := Kd.R_celln 0 HL115_0.out ((rd (rd_L1 l0_1 x34_2) 1) : Int) p30 q30
            replace p30 := eq_true p30
            replace q30 := eq_true q30
            have hq36 : ((rd (rd_L1 l0_1 x34_2) 0) : Int) < (x5_2.length : Int) := (by have h_ : ((rd (rd_L1 l0_1 x34_2) 0) : Int) < ((x5_2.length : Int) : Int) := oD; first | exact h_ | (have e_ := (Kd.S_reads' HO_5.out).1; omega) | simpa only [List.length_set, List.length_set] using h_)
            obtain ⟨oki36, ce36, hcl36, hM36, hcc36, hok36, hbk36⟩ := Kd.S_borrow HO_5.out [] ((rd (rd_L1 l0_1 x34_2) 0) : Int) oD (by first | exact hq36 | (have e_ := (Kd.S_reads' HO_5.out).1; omega))
            obtain ⟨ve36_0, rfl, ge36_0⟩ := hM36
            have hv36 := hcc36 0 _ rfl
            rw [Nat.add_zero, show ((Kd.slice 2 (Kd.int .i64))).sz = 1 from rfl, Nat.mul_one] at hv36
            replace hv36 := Option.some.inj (hv36.symm.trans HX115_0.out)
            subst hv36
            clear hcc36 hcl36
            replace ge36_0 := (show Kd.R (Kd.int .i64) 2 _ _ _ _ (rd_L1 x5_2 (rd (rd_L1 l0_1 x34_2) 0)) from ge36_0)
            have HP36 := Kd.R_putg ge36_0 ((rd (rd_L1 l0_1 x34_2) 1) : Int) (wrap64 ((rd (rd_L1 x5_2 (rd (rd_L1 l0_1 x34_2) 0)) (rd (rd_L1 l0_1 x34_2) 1)) - (rd l1 x34_2)))
            have HXp36 := Aside0.mk (cell_grown HP36.2 HX115_0.out (cell_ne (hok36 _ (ge36_0.1 _ rfl)).2))
            rw [← Ny119.out] at HP36
            have HPr36 := Aside0.mk HP36.1
            have HS36 := hbk36 HP36.2 (fun k_ e_ => by injection e_ with e_; subst e_; exact ge36_0.1 _ rfl) (x' := y119) (Kd.M_row HP36.1)
            rw [← Ny121.out] at HS36
            have HQ36 := Aside0.mk HS36
            clear HP36 HS36 hbk36 hok36
            refine start_ (n := 18) (S := fun w' => w'.cell? ad114 = some (.int .i64 (rd (rd_L1 l0_1 x34_2) 0)) ∧ w'.cell? (ad115.add ((rd (rd_L1 l0_1 x34_2) 0)).toNat) = some (.slice (some ⟨go30, 0, none⟩) (rd_L1 x5_2 (rd (rd_L1 l0_1 x34_2) 0)).length c115_0) ∧ w'.cell? ⟨ad114.block, ad114.off + 1, none⟩ = some (.int .i64 (rd (rd_L1 l0_1 x34_2) 1)) ∧ w'.cell? ⟨go30, ((rd (rd_L1 l0_1 x34_2) 1)).toNat, none⟩ = some (.int .i64 (rd (rd_L1 x5_2 (rd (rd_L1 l0_1 x34_2) 0)) (rd (rd_L1 l0_1 x34_2) 1))) ∧ w'.cell? (ad118.add (x34_2).toNat) = some (.int .i64 (rd l1 x34_2))) (ds := [17]) #[false, false, false, false, false, false, false, false, false, false, false, false, false, false, false, false, false, false] (by kernel_rfl) rfl rfl ⟨(hbc HB hw114_0), hx115_0, (hbc HB hw116_0), hx117_0, (hbc HB hw118_0)⟩ (fun hHeld => ?_); refine with_tabW impl_Graph_signedLaplacian.tab10 impl_Graph_signedLaplacian.bits10 (fun HT_ HW_ => ?_)
            generalize wr.drew = w34 at HO_5 BK101 HB GG30 HL115_0 HQ36 HR115_0 HX115_0 hf30_0 hx114_0 hx115_0 hx116_0 hx117_0 hx118_0 hx30_0 hHeld ⊢
            refine pure_ (i := 0) (N := some 39) (v := ?_) (a' := ?_) #[true, false, false, false, false, false, false, false, false, false, false, false, false, false, false, false, false, false] rfl rfl (any_of HT_.out (by kernel_rfl)) (fun _ _ _ h => h) (Or.inl ⟨by rfl, ?_⟩) ?_ ?_
            rotate_left; · intro w'; go_simp; with_reducible rfl
            rotate_left; · simp only [Act.put, zI, zZ, zS, i64_w, i32_w]; rfl
            refine pure_ (i := 1) (N := some 40) (v := ?_) (a' := ?_) #[true, true, false, false, false, false, false, false, false, false, false, false, false, false, false, false, false, false] rfl rfl (any_of HT_.out (by kernel_rfl)) (fun _ _ _ h => h) (Or.inl ⟨by rfl, ?_⟩) ?_ ?_
            rotate_left; · intro w'; go_simp; with_reducible rfl
            rotate_left; · simp only [Act.put, zI, zZ, zS, i64_w, i32_w]; rfl
            refine pure_ (i := 2) (N := some 41) (v := ?_) (a' := ?_) #[true, true, true, false, false, false, false, false, false, false, false, false, false, false, false, false, false, false] rfl rfl (any_of HT_.out (by kernel_rfl)) (fun _ _ _ h => h) (Or.inl ⟨by rfl, ?_⟩) ?_ ?_
            rotate_left; · intro w'; go_simp; with_reducible rfl
            rotate_left; · simp only [Act.put, zI, zZ, zS, i64_w, i32_w]; rfl
            refine pure_ (i := 6) (N := some 45) (v := ?_) (a' := ?_) #[true, true, true, false, false, false, true, false, false, false, false, false, false, false, false, false, false, false] rfl rfl (any_of HT_.out (by kernel_rfl)) (fun _ _ _ h => h) (Or.inl ⟨by rfl, ?_⟩) ?_ ?_
            rotate_left; · intro w'; go_simp; with_reducible rfl
            rotate_left; · simp only [Act.put, zI, zZ, zS, i64_w, i32_w]; rfl
            refine pure_ (i := 7) (N := some 46) (v := ?_) (a' := ?_) #[true, true, true, false, false, false, true, true, false, false, false, false, false, false, false, false, false, false] rfl rfl (any_of HT_.out (by kernel_rfl)) (fun _ _ _ h => h) (Or.inl ⟨by rfl, ?_⟩) ?_ ?_
            rotate_left; · intro w'; go_simp; with_reducible rfl
            rotate_left; · simp only [Act.put, zI, zZ, zS, i64_w, i32_w]; rfl
            refine pure_ (i := 11) (N := some 50) (v := ?_) (a' := ?_) #[true, true, true, false, false, false, true, true, false, false, false, true, false, false, false, false, false, false] rfl rfl (any_of HT_.out (by kernel_rfl)) (fun _ _ _ h => h) (Or.inl ⟨by rfl, ?_⟩) ?_ ?_
            rotate_left; · intro w'; go_simp; with_reducible rfl
            rotate_left; · simp only [Act.put, zI, zZ, zS, i64_w, i32_w]; rfl
            refine pure_ (i := 12) (N := some 51) (v := ?_) (a' := ?_) #[true, true, true, false, false, false, true, true, false, false, false, true, true, false, false, false, false, false] rfl rfl (any_of HT_.out (by kernel_rfl)) (fun _ _ _ h => h) (Or.inl ⟨by rfl, ?_⟩) ?_ ?_
            rotate_left; · intro w'; go_simp; with_reducible rfl
            rotate_left; · simp only [Act.put, zI, zZ, zS, i64_w, i32_w]; rfl
            refine pure_ (i := 13) (N := some 52) (v := ?_) (a' := ?_) #[true, true, true, false, false, false, true, true, false, false, false, true, true, true, false, false, false, false] rfl rfl (any_of HT_.out (by kernel_rfl)) (fun _ _ _ h => h) (Or.inl ⟨by rfl, ?_⟩) ?_ ?_
            rotate_left; · intro w'; go_simp; with_reducible rfl
            rotate_left; · simp only [Act.put, zI, zZ, zS, i64_w, i32_w]; rfl
            refine take_ (i := 3) (N := some 42) (v := ?_) (a' := ?_) #[true, true, true, true, false, false, true, true, false, false, false, true, true, true, false, false, false, false] rfl rfl (take_ofW HT_.out HW_.out (by kernel_rfl)) (fun _ _ _ h => h) (Or.inl ⟨by rfl, ?_⟩) hHeld ?_ ?_
            rotate_left; · rintro w' ⟨s0, s1, s2, s3, s4⟩; go_simp; with_reducible rfl
            rotate_left; · simp only [Act.put, zI, zZ, zS, i64_w, i32_w]; rfl
            refine pure_ (i := 4) (N := some 43) (v := ?_) (a' := ?_) #[true, true, true, true, true, false, true, true, false, false, false, true, true, true, false, false, false, false] rfl rfl (any_of HT_.out (by kernel_rfl)) (fun _ _ _ h => h) (Or.inl ⟨by rfl, ?_⟩) ?_ ?_
            rotate_left; · intro w'; go_simp; with_reducible rfl
            rotate_left; · simp only [Act.put, zI, zZ, zS, i64_w, i32_w]; rfl
            refine take_ (i := 5) (N := some 44) (v := ?_) (a' := ?_) #[true, true, true, true, true, true, true, true, false, false, false, true, true, true, false, false, false, false] rfl rfl (take_ofW HT_.out HW_.out (by kernel_rfl)) (fun _ _ _ h => h) (Or.inl ⟨by rfl, ?_⟩) hHeld ?_ ?_
            rotate_left; · rintro w' ⟨s0, s1, s2, s3, s4⟩; go_simp; with_reducible rfl
            rotate_left; · simp only [Act.put, zI, zZ, zS, i64_w, i32_w]; rfl
            refine take_ (i := 8) (N := some 47) (v := ?_) (a' := ?_) #[true, true, true, true, true, true, true, true, true, false, false, true, true, true, false, false, false, false] rfl rfl (take_ofW HT_.out HW_.out (by kernel_rfl)) (fun _ _ _ h => h) (Or.inl ⟨by rfl, ?_⟩) hHeld ?_ ?_
            rotate_left; · rintro w' ⟨s0, s1, s2, s3, s4⟩; go_simp; with_reducible rfl
            rotate_left; · simp only [Act.put, zI, zZ, zS, i64_w, i32_w]; rfl
            refine pure_ (i := 9) (N := some 48) (v := ?_) (a' := ?_) #[true, true, true, true, true, true, true, true, true, true, false, true, true, true, false, false, false, false] rfl rfl (any_of HT_.out (by kernel_rfl)) (fun _ _ _ h => h) (Or.inl ⟨by rfl, ?_⟩) ?_ ?_
            rotate_left; · intro w'; go_simp; with_reducible rfl
            rotate_left; · simp only [Act.put, zI, zZ, zS, i64_w, i32_w]; rfl
            refine take_ (i := 10) (N := some 49) (v := ?_) (a' := ?_) #[true, true, true, true, true, true, true, true, true, true, true, true, true, true, false, false, false, false] rfl rfl (take_ofW HT_.out HW_.out (by kernel_rfl)) (fun _ _ _ h => h) (Or.inl ⟨by rfl, ?_⟩) hHeld ?_ ?_
            rotate_left; · rintro w' ⟨s0, s1, s2, s3, s4⟩; go_simp; with_reducible rfl
            rotate_left; · simp only [Act.put, zI, zZ, zS, i64_w, i32_w]; rfl
            refine take_ (i := 14) (N := some 53) (v := ?_) (a' := ?_) #[true, true, true, true, true, true, true, true, true, true, true, true, true, true, true, false, false, false] rfl rfl (take_ofW HT_.out HW_.out (by kernel_rfl)) (fun _ _ _ h => h) (Or.inl ⟨by rfl, ?_⟩) hHeld ?_ ?_
            rotate_left; · rintro w' ⟨s0, s1, s2, s3, s4⟩; go_simp; with_reducible rfl
            rotate_left; · simp only [Act.put, zI, zZ, zS, i64_w, i32_w]; rfl
            refine pure_ (i := 15) (N := some 54) (v := ?_) (a' := ?_) #[true, true, true, true, true, true, true, true, true, true, true, true, true, true, true, true, false, false] rfl rfl (any_of HT_.out (by kernel_rfl)) (fun _ _ _ h => h) (Or.inl ⟨by rfl, ?_⟩) ?_ ?_
            rotate_left; · intro w'; go_simp; with_reducible rfl
            rotate_left; · simp only [Act.put, zI, zZ, zS, i64_w, i32_w]; rfl
            refine pure_ (i := 16) (N := some 55) (v := ?_) (a' := ?_) #[true, true, true, true, true, true, true, true, true, true, true, true, true, true, true, true, true, false] rfl rfl (any_of HT_.out (by kernel_rfl)) (fun _ _ _ h => h) (Or.inl ⟨by rfl, ?_⟩) ?_ ?_
            rotate_left; · intro w'; go_simp; with_reducible rfl
            rotate_left; · simp only [Act.put, zI, zZ, zS, i64_w, i32_w]; rfl
            refine last_ (i := 17) (N := none) #[true, true, true, true, true, true, true, true, true, true, true, true, true, true, true, true, true, true] rfl rfl (one_of HT_.out (by kernel_rfl)) (by decide) (fun K hK => ?_)
            refine skip_ (w1 := ?_) (by rfl) rfl ?_ ?_
            rotate_left; · go_simp; rfl
            refine hK.out _ _ ?_
            clear hK K
            refine done_ (done_of HT_.out (by kernel_rfl)) ?_
            try go_wp2
            have n0_ : Aside0 (Kd.S (Kd.slice 2 (Kd.int .i64)) 43 (w34.setCell ⟨go30, ((rd (rd_L1 l0_1 x34_2) 1) : Int).toNat, none⟩ (.int .i64 (wrap64 ((rd (rd_L1 x5_2 (rd (rd_L1 l0_1 x34_2) 0)) (rd (rd_L1 l0_1 x34_2) 1)) - (rd l1 x34_2))))) w.heap.size (fun _ => True) (.slice (some ad115) x5_2.length co35) y121) := ⟨by (with_reducible repeat (first | apply Kd.S_alloc | apply Kd.S_drewN | apply Kd.S_drew)); exact HQ36.out⟩
            have n1_ : Aside0 ((w34.setCell ⟨go30, ((rd (rd_L1 l0_1 x34_2) 1) : Int).toNat, none⟩ (.int .i64 (wrap64 ((rd (rd_L1 x5_2 (rd (rd_L1 l0_1 x34_2) 0)) (rd (rd_L1 l0_1 x34_2) 1)) - (rd l1 x34_2))))).heap[gb101]? = some (.cells #[.int .i64 a0_0, .slice (some ad113) l0_1.length c0_1] 26 (0, 0))) := ⟨by (with_reducible repeat (first | refine blk_drewN ?_ _ | refine blk_drew ?_ | refine blk_alloc ?_ _)); refine blk_far ?_ (by have h_ := Kd.R_ne HL115_0.out BK101.out (by decide); intro e_; exact h_ (by rw [e_]; rfl)) _; (with_reducible repeat (first | refine blk_drewN ?_ _ | refine blk_drew ?_ | refine blk_alloc ?_ _)); exact BK101.out⟩
            have n2_ : Aside0 (Below w.heap.size w (w34.setCell ⟨go30, ((rd (rd_L1 l0_1 x34_2) 1) : Int).toNat, none⟩ (.int .i64 (wrap64 ((rd (rd_L1 x5_2 (rd (rd_L1 l0_1 x34_2) 0)) (rd (rd_L1 l0_1 x34_2) 1)) - (rd l1 x34_2)))))) := ⟨by repeat (first | (with_reducible first | exact HB.out | apply below_alloc | apply pw_below_drewN | apply below_drew1 | refine below_set ?_ GB30.out | refine below_set ?_ GE101.out) | exact HB.out)⟩
            (try clear HO_5)
            (try clear BK101)
            (try clear HB)
            generalize (w34.setCell ⟨go30, ((rd (rd_L1 l0_1 x34_2) 1) : Int).toNat, none⟩ (.int .i64 (wrap64 ((rd (rd_L1 x5_2 (rd (rd_L1 l0_1 x34_2) 0)) (rd (rd_L1 l0_1 x34_2) 1)) - (rd l1 x34_2))))) = w38 at n0_ n1_ n2_ ⊢
            have HO_5 := n0_
            have BK101 := n1_
            have HB := n2_
            clear n0_ n1_ n2_
            have n0_ := Aside0.mk (Kd.S_drew HO_5.out)
            have n1_ := Aside0.mk (blk_drew BK101.out)
            have n2_ := Aside0.mk (below_drew1 HB.out)
            clear HO_5
            clear BK101
            clear HB
            have HO_5 := n0_
            have BK101 := n1_
            have HB := n2_
            clear n0_ n1_ n2_
            have p122 : 0 ≤ (1 : Int) := (by omega)
            have q122 : 1 < ((rd_L1 l0_1 x34_2).length : Int) := oD
            obtain ⟨ad122, e122, hx122_0⟩ := Kd.at_int HR113_0.out 1 p122 q122
            have hw122_0 := hx122_0
            (try rw [show ((1 : Int)).toNat = 1 from rfl] at hw122_0)
            (try rw [show 1 * 1 = 1 from rfl] at hw122_0)
            (try simp only [Nat.reduceMul, Nat.reduceEqDiff, Go.Addr.add, ↓reduceIte] at hw122_0)
            obtain rfl : ad114 = ad122 := (by injection e122)
            (try simp only [show (1 : Int).toNat = 1 from rfl, Nat.reduceMul, Nat.reduceEqDiff, Go.Addr.add, ↓reduceIte] at hx122_0)
            have qi122 : (1 < (rd_L1 l0_1 x34_2).length) = True := eq_true (by omega)
            (try rw [show ((1 : Int)).toNat = 1 from rfl] at hx122_0)
            replace hx122_0 := hbc HB hx122_0
            replace p122 := eq_true p122
            replace q122 := eq_true q122
            have p123 : 0 ≤ ((rd (rd_L1 l0_1 x34_2) 1) : Int) := oD
            have q123 : (rd (rd_L1 l0_1 x34_2) 1) < (y121.length : Int) := (by have h_ : ((rd (rd_L1 l0_1 x34_2) 1) : Int) < ((x5_2.length : Int) : Int) := oD; first | (have e_ := (Kd.S_reads' HO_5.out).1; omega) | simpa only [Ny121.out, List.length_set] using h_)
            have ql123 : (((rd (rd_L1 l0_1 x34_2) 1) : Int) < ((x5_2.length : Int) : Int)) = True := eq_true oD
            obtain ⟨ad123, A123_0, c123_0, e123, hx123_0, hl123_0, hi123_0⟩ := at_L1 (Kd.S_reads' HO_5.out).2.2 (rd (rd_L1 l0_1 x34_2) 1) p123 q123
            obtain rfl : ad115 = ad123 := (by injection e123)
            obtain ⟨ce123, hce123, hMe123, hcc123⟩ := Kd.S_get HO_5.out [] (rd (rd_L1 l0_1 x34_2) 1) p123 (by first | exact q123 | exact oD | (have e_ := (Kd.S_reads' HO_5.out).1; omega))
            obtain ⟨ve123_0, rfl, ge123_0⟩ := hMe123
            have hv123_0 := hcc123 0 _ rfl
            rw [Nat.add_zero, show ((Kd.slice 2 (Kd.int .i64))).sz = 1 from rfl, Nat.mul_one] at hv123_0
            replace hv123_0 := Option.some.inj (hv123_0.symm.trans hx123_0)
            rw [hv123_0] at ge123_0
            have HL123_0 := Aside0.mk (show Kd.R (Kd.int .i64) 2 _ _ _ _ (rd_L1 y121 (rd (rd_L1 l0_1 x34_2) 1)) from ge123_0)
            clear hv123_0 ge123_0
            have HX123_0 := Aside0.mk hx123_0
            clear hcc123 hce123
            have HR123_0 := Aside0.mk hi123_0
            have HC123_0 := Aside0.mk hl123_0
            clear hi123_0 hl123_0
            replace p123 := eq_true p123
            replace q123 := eq_true q123
            have p124 : 0 ≤ (0 : Int) := (by omega)
            have q124 : 0 < ((rd_L1 l0_1 x34_2).length : Int) := oD
            obtain ⟨ad124, e124, hx124_0⟩ := Kd.at_int HR113_0.out 0 p124 q124
            have hw124_0 := hx124_0
            (try rw [show ((0 : Int)).toNat = 0 from rfl] at hw124_0)
            (try rw [show 0 * 1 = 0 from rfl] at hw124_0)
            (try rw [Addr.add_zero'] at hw124_0)
            obtain rfl : ad114 = ad124 := (by injection e124)
            have qi124 : (0 < (rd_L1 l0_1 x34_2).length) = True := eq_true (by omega)
            (try rw [show ((0 : Int)).toNat = 0 from rfl] at hx124_0)
            (try rw [Addr.add_zero'] at hx124_0)
            replace hx124_0 := hbc HB hx124_0
            replace p124 := eq_true p124
            replace q124 := eq_true q124
            have p125 : 0 ≤ ((rd (rd_L1 l0_1 x34_2) 0) : Int) := oD
            have q125 : (rd (rd_L1 l0_1 x34_2) 0) < ((rd_L1 y121 (rd (rd_L1 l0_1 x34_2) 1)).length : Int) := oD
            obtain ⟨ad125, e125, hx125_0⟩ := Kd.at_int (by repeat (first | (with_reducible exact HR123_0.out) | (with_reducible refine Kd.C_alloc ?_ _) | (with_reducible refine Kd.C_drewN ?_ _) | (with_reducible refine Kd.C_drew ?_) | exact HR123_0.out)) (rd (rd_L1 l0_1 x34_2) 0) p125 q125
            cases e125
            replace p125 := eq_true p125
            replace q125 := eq_true q125
            have p126 : 0 ≤ (x34_2 : Int) := oD
            have q126 : x34_2 < (l1.length : Int) := oD
            obtain ⟨ad126, e126, hx126_0⟩ := Kd.at_int HR1.out x34_2 p126 q126
            have hw126_0 := hx126_0
            obtain rfl : ad118 = ad126 := (by injection e126)
            replace hx126_0 := hbc HB hx126_0
            replace p126 := eq_true p126
            replace q126 := eq_true q126
            have p33 : 0 ≤ ((rd (rd_L1 l0_1 x34_2) 0) : Int) := oD
            have q33 : ((rd (rd_L1 l0_1 x34_2) 0) : Int) < (((rd_L1 y121 (rd (rd_L1 l0_1 x34_2) 1)).length : Int) : Int) := oD
            obtain ⟨go33, co33, eo33, gb33, gl33, cl33, HG33⟩ := Kd.R_form HL123_0.out (by omega)
            (first | cases eo33 | (injection eo33 with ea_ en_ ec_; (first | subst ea_ | (injection ea_ with ea_; subst ea_)); subst ec_; clear en_))
            (first | simp only [add_plain] at hx125_0 | skip)
            have GB33 := Aside0.mk gb33
            have GG33 := Aside0.mk HG33
            clear gb33 gl33 HG33
            (first | simp only [add_plain] at hx125_0 | skip)
            obtain ⟨hx33_0, hf33_0⟩ := Kd.R_celln 0 HL123_0.out ((rd (rd_L1 l0_1 x34_2) 0) : Int) p33 q33
            replace p33 := eq_true p33
            replace q33 := eq_true q33
            have hq40 : ((rd (rd_L1 l0_1 x34_2) 1) : Int) < (y121.length : Int) := (by have h_ : ((rd (rd_L1 l0_1 x34_2) 1) : Int) < ((x5_2.length : Int) : Int) := oD; first | exact h_ | (have e_ := (Kd.S_reads' HO_5.out).1; omega) | simpa only [Ny121.out, List.length_set] using h_)
            obtain ⟨oki40, ce40, hcl40, hM40, hcc40, hok40, hbk40⟩ := Kd.S_borrow HO_5.out [] ((rd (rd_L1 l0_1 x34_2) 1) : Int) oD (by first | exact hq40 | (have e_ := (Kd.S_reads' HO_5.out).1; omega))
            obtain ⟨ve40_0, rfl, ge40_0⟩ := hM40
            have hv40 := hcc40 0 _ rfl
            rw [Nat.add_zero, show ((Kd.slice 2 (Kd.int .i64))).sz = 1 from rfl, Nat.mul_one] at hv40
            replace hv40 := Option.some.inj (hv40.symm.trans HX123_0.out)
            subst hv40
            clear hcc40 hcl40
            replace ge40_0 := (show Kd.R (Kd.int .i64) 2 _ _ _ _ (rd_L1 y121 (rd (rd_L1 l0_1 x34_2) 1)) from ge40_0)
            have HP40 := Kd.R_putg ge40_0 ((rd (rd_L1 l0_1 x34_2) 0) : Int) (wrap64 ((rd (rd_L1 y121 (rd (rd_L1 l0_1 x34_2) 1)) (rd (rd_L1 l0_1 x34_2) 0)) - (rd l1 x34_2)))
            have HXp40 := Aside0.mk (cell_grown HP40.2 HX123_0.out (cell_ne (hok40 _ (ge40_0.1 _ rfl)).2))
            rw [← Ny127.out] at HP40
            have HPr40 := Aside0.mk HP40.1
            have HS40 := hbk40 HP40.2 (fun k_ e_ => by injection e_ with e_; subst e_; exact ge40_0.1 _ rfl) (x' := y127) (Kd.M_row HP40.1)
            rw [← Ny129.out] at HS40
            have HQ40 := Aside0.mk HS40
            clear HP40 HS40 hbk40 hok40
            refine start_ (n := 18) (S := fun w' => w'.cell? ⟨ad114.block, ad114.off + 1, none⟩ = some (.int .i64 (rd (rd_L1 l0_1 x34_2) 1)) ∧ w'.cell? (ad115.add ((rd (rd_L1 l0_1 x34_2) 1)).toNat) = some (.slice (some ⟨go33, 0, none⟩) (rd_L1 y121 (rd (rd_L1 l0_1 x34_2) 1)).length c123_0) ∧ w'.cell? ad114 = some (.int .i64 (rd (rd_L1 l0_1 x34_2) 0)) ∧ w'.cell? ⟨go33, ((rd (rd_L1 l0_1 x34_2) 0)).toNat, none⟩ = some (.int .i64 (rd (rd_L1 y121 (rd (rd_L1 l0_1 x34_2) 1)) (rd (rd_L1 l0_1 x34_2) 0))) ∧ w'.cell? (ad118.add (x34_2).toNat) = some (.int .i64 (rd l1 x34_2))) (ds := [17]) #[false, false, false, false, false, false, false, false, false, false, false, false, false, false, false, false, false, false] (by kernel_rfl) rfl rfl ⟨(hbc HB hw122_0), hx123_0, (hbc HB hw124_0), hx125_0, (hbc HB hw126_0)⟩ (fun hHeld => ?_); refine with_tabW impl_Graph_signedLaplacian.tab11 impl_Graph_signedLaplacian.bits11 (fun HT_ HW_ => ?_)
            generalize w38.drew = w39 at HO_5 BK101 HB GG33 HL123_0 HQ36 HQ40 HR123_0 HX123_0 hf33_0 hx122_0 hx123_0 hx124_0 hx125_0 hx126_0 hx33_0 hHeld ⊢
            refine pure_ (i := 0) (N := some 56) (v := ?_) (a' := ?_) #[true, false, false, false, false, false, false, false, false, false, false, false, false, false, false, false, false, false] rfl rfl (any_of HT_.out (by kernel_rfl)) (fun _ _ _ h => h) (Or.inl ⟨by rfl, ?_⟩) ?_ ?_
            rotate_left; · intro w'; go_simp; with_reducible rfl
            rotate_left; · simp only [Act.put, zI, zZ, zS, i64_w, i32_w]; rfl
            refine pure_ (i := 1) (N := some 57) (v := ?_) (a' := ?_) #[true, true, false, false, false, false, false, false, false, false, false, false, false, false, false, false, false, false] rfl rfl (any_of HT_.out (by kernel_rfl)) (fun _ _ _ h => h) (Or.inl ⟨by rfl, ?_⟩) ?_ ?_
            rotate_left; · intro w'; go_simp; with_reducible rfl
            rotate_left; · simp only [Act.put, zI, zZ, zS, i64_w, i32_w]; rfl
            refine pure_ (i := 2) (N := some 58) (v := ?_) (a' := ?_) #[true, true, true, false, false, false, false, false, false, false, false, false, false, false, false, false, false, false] rfl rfl (any_of HT_.out (by kernel_rfl)) (fun _ _ _ h => h) (Or.inl ⟨by rfl, ?_⟩) ?_ ?_
            rotate_left; · intro w'; go_simp; with_reducible rfl
            rotate_left; · simp only [Act.put, zI, zZ, zS, i64_w, i32_w]; rfl
            refine pure_ (i := 6) (N := some 62) (v := ?_) (a' := ?_) #[true, true, true, false, false, false, true, false, false, false, false, false, false, false, false, false, false, false] rfl rfl (any_of HT_.out (by kernel_rfl)) (fun _ _ _ h => h) (Or.inl ⟨by rfl, ?_⟩) ?_ ?_
            rotate_left; · intro w'; go_simp; with_reducible rfl
            rotate_left; · simp only [Act.put, zI, zZ, zS, i64_w, i32_w]; rfl
            refine pure_ (i := 7) (N := some 63) (v := ?_) (a' := ?_) #[true, true, true, false, false, false, true, true, false, false, false, false, false, false, false, false, false, false] rfl rfl (any_of HT_.out (by kernel_rfl)) (fun _ _ _ h => h) (Or.inl ⟨by rfl, ?_⟩) ?_ ?_
            rotate_left; · intro w'; go_simp; with_reducible rfl
            rotate_left; · simp only [Act.put, zI, zZ, zS, i64_w, i32_w]; rfl
            refine pure_ (i := 11) (N := some 67) (v := ?_) (a' := ?_) #[true, true, true, false, false, false, true, true, false, false, false, true, false, false, false, false, false, false] rfl rfl (any_of HT_.out (by kernel_rfl)) (fun _ _ _ h => h) (Or.inl ⟨by rfl, ?_⟩) ?_ ?_
            rotate_left; · intro w'; go_simp; with_reducible rfl
            rotate_left; · simp only [Act.put, zI, zZ, zS, i64_w, i32_w]; rfl
            refine pure_ (i := 12) (N := some 68) (v := ?_) (a' := ?_) #[true, true, true, false, false, false, true, true, false, false, false, true, true, false, false, false, false, false] rfl rfl (any_of HT_.out (by kernel_rfl)) (fun _ _ _ h => h) (Or.inl ⟨by rfl, ?_⟩) ?_ ?_
            rotate_left; · intro w'; go_simp; with_reducible rfl
            rotate_left; · simp only [Act.put, zI, zZ, zS, i64_w, i32_w]; rfl
            refine pure_ (i := 13) (N := some 69) (v := ?_) (a' := ?_) #[true, true, true, false, false, false, true, true, false, false, false, true, true, true, false, false, false, false] rfl rfl (any_of HT_.out (by kernel_rfl)) (fun _ _ _ h => h) (Or.inl ⟨by rfl, ?_⟩) ?_ ?_
            rotate_left; · intro w'; go_simp; with_reducible rfl
            rotate_left; · simp only [Act.put, zI, zZ, zS, i64_w, i32_w]; rfl
            refine take_ (i := 3) (N := some 59) (v := ?_) (a' := ?_) #[true, true, true, true, false, false, true, true, false, false, false, true, true, true, false, false, false, false] rfl rfl (take_ofW HT_.out HW_.out (by kernel_rfl)) (fun _ _ _ h => h) (Or.inl ⟨by rfl, ?_⟩) hHeld ?_ ?_
            rotate_left; · rintro w' ⟨s0, s1, s2, s3, s4⟩; go_simp; with_reducible rfl
            rotate_left; · simp only [Act.put, zI, zZ, zS, i64_w, i32_w]; rfl
            refine pure_ (i := 4) (N := some 60) (v := ?_) (a' := ?_) #[true, true, true, true, true, false, true, true, false, false, false, true, true, true, false, false, false, false] rfl rfl (any_of HT_.out (by kernel_rfl)) (fun _ _ _ h => h) (Or.inl ⟨by rfl, ?_⟩) ?_ ?_
            rotate_left; · intro w'; go_simp; with_reducible rfl
            rotate_left; · simp only [Act.put, zI, zZ, zS, i64_w, i32_w]; rfl
            refine take_ (i := 5) (N := some 61) (v := ?_) (a' := ?_) #[true, true, true, true, true, true, true, true, false, false, false, true, true, true, false, false, false, false] rfl rfl (take_ofW HT_.out HW_.out (by kernel_rfl)) (fun _ _ _ h => h) (Or.inl ⟨by rfl, ?_⟩) hHeld ?_ ?_
            rotate_left; · rintro w' ⟨s0, s1, s2, s3, s4⟩; go_simp; with_reducible rfl
            rotate_left; · simp only [Act.put, zI, zZ, zS, i64_w, i32_w]; rfl
            refine take_ (i := 8) (N := some 64) (v := ?_) (a' := ?_) #[true, true, true, true, true, true, true, true, true, false, false, true, true, true, false, false, false, false] rfl rfl (take_ofW HT_.out HW_.out (by kernel_rfl)) (fun _ _ _ h => h) (Or.inl ⟨by rfl, ?_⟩) hHeld ?_ ?_
            rotate_left; · rintro w' ⟨s0, s1, s2, s3, s4⟩; go_simp; with_reducible rfl
            rotate_left; · simp only [Act.put, zI, zZ, zS, i64_w, i32_w]; rfl
            refine pure_ (i := 9) (N := some 65) (v := ?_) (a' := ?_) #[true, true, true, true, true, true, true, true, true, true, false, true, true, true, false, false, false, false] rfl rfl (any_of HT_.out (by kernel_rfl)) (fun _ _ _ h => h) (Or.inl ⟨by rfl, ?_⟩) ?_ ?_
            rotate_left; · intro w'; go_simp; with_reducible rfl
            rotate_left; · simp only [Act.put, zI, zZ, zS, i64_w, i32_w]; rfl
            refine take_ (i := 10) (N := some 66) (v := ?_) (a' := ?_) #[true, true, true, true, true, true, true, true, true, true, true, true, true, true, false, false, false, false] rfl rfl (take_ofW HT_.out HW_.out (by kernel_rfl)) (fun _ _ _ h => h) (Or.inl ⟨by rfl, ?_⟩) hHeld ?_ ?_
            rotate_left; · rintro w' ⟨s0, s1, s2, s3, s4⟩; go_simp; with_reducible rfl
            rotate_left; · simp only [Act.put, zI, zZ, zS, i64_w, i32_w]; rfl
            refine take_ (i := 14) (N := some 70) (v := ?_) (a' := ?_) #[true, true, true, true, true, true, true, true, true, true, true, true, true, true, true, false, false, false] rfl rfl (take_ofW HT_.out HW_.out (by kernel_rfl)) (fun _ _ _ h => h) (Or.inl ⟨by rfl, ?_⟩) hHeld ?_ ?_
            rotate_left; · rintro w' ⟨s0, s1, s2, s3, s4⟩; go_simp; with_reducible rfl
            rotate_left; · simp only [Act.put, zI, zZ, zS, i64_w, i32_w]; rfl
            refine pure_ (i := 15) (N := some 71) (v := ?_) (a' := ?_) #[true, true, true, true, true, true, true, true, true, true, true, true, true, true, true, true, false, false] rfl rfl (any_of HT_.out (by kernel_rfl)) (fun _ _ _ h => h) (Or.inl ⟨by rfl, ?_⟩) ?_ ?_
            rotate_left; · intro w'; go_simp; with_reducible rfl
            rotate_left; · simp only [Act.put, zI, zZ, zS, i64_w, i32_w]; rfl
            refine pure_ (i := 16) (N := some 72) (v := ?_) (a' := ?_) #[true, true, true, true, true, true, true, true, true, true, true, true, true, true, true, true, true, false] rfl rfl (any_of HT_.out (by kernel_rfl)) (fun _ _ _ h => h) (Or.inl ⟨by rfl, ?_⟩) ?_ ?_
            rotate_left; · intro w'; go_simp; with_reducible rfl
            rotate_left; · simp only [Act.put, zI, zZ, zS, i64_w, i32_w]; rfl
            refine last_ (i := 17) (N := none) #[true, true, true, true, true, true, true, true, true, true, true, true, true, true, true, true, true, true] rfl rfl (one_of HT_.out (by kernel_rfl)) (by decide) (fun K hK => ?_)
            refine skip_ (w1 := ?_) (by rfl) rfl ?_ ?_
            rotate_left; · go_simp; rfl
            refine hK.out _ _ ?_
            clear hK K
            refine done_ (done_of HT_.out (by kernel_rfl)) ?_
            try go_wp2
            go_roundg k2
            case measure => have := HK1.out; have := HK2.out; omega
            case rel => exact ⟨(y129), (wrap64 (x34_2 + 1)), rs, H', ⟨by have := HK1.out; have := HK2.out; omega⟩, ⟨by (try simp only [hl6_1]); (with_reducible repeat (first | apply Kd.S_alloc | apply Kd.S_drewN | apply Kd.S_drew)); exact HQ40.out⟩, ⟨by (try simp only [hl6_1]); (with_reducible repeat (first | refine blk_drewN ?_ _ | refine blk_drew ?_ | refine blk_alloc ?_ _)); refine blk_far ?_ (by have h_ := Kd.R_ne HL123_0.out BK101.out (by decide); intro e_; exact h_ (by rw [e_]; rfl)) _; (with_reducible repeat (first | refine blk_drewN ?_ _ | refine blk_drew ?_ | refine blk_alloc ?_ _)); exact BK101.out⟩, ⟨by repeat (first | (with_reducible first | exact HB.out | apply below_alloc | apply pw_below_drewN | apply below_drew1 | refine below_set ?_ GB33.out | refine below_set ?_ GE101.out) | exact HB.out)⟩⟩
      rw [if_pos c10] at H
      have c10b0 : decide (x18_1 < (t105.length : Int)) = true := decide_eq_true c10
      (try simp only [hl6_1] at c10b0)
      clear c10
      by_cases c11 : 0 ≤ x18_1
      case neg => rw [if_neg c11] at H; exact absurd H (by simp)
      rw [if_pos c11] at H
      have c11b0 : decide (0 ≤ x18_1) = true := decide_eq_true c11
      clear c11
      by_cases c12 : x18_1 < (x6_1.length : Int)
      case neg => rw [if_neg c12] at H; exact absurd H (by simp)
      rw [if_pos c12] at H
      have c12b0 : decide (x18_1 < (x6_1.length : Int)) = true := decide_eq_true c12
      (try simp only [hl6_1] at c12b0)
      clear c12
      by_cases c13 : x18_1 < (x5_1.length : Int)
      case neg => rw [if_neg c13] at H; exact absurd H (by simp)
      rw [if_pos c13] at H
      have c13b0 : decide (x18_1 < (x5_1.length : Int)) = true := decide_eq_true c13
      (try simp only [hl6_1] at c13b0)
      clear c13
      by_cases c14 : x18_1 < ((rd_L1 x5_1 x18_1).length : Int)
      case neg => rw [if_neg c14] at H; exact absurd H (by simp)
      rw [if_pos c14] at H
      have c14b0 : decide (x18_1 < ((rd_L1 x5_1 x18_1).length : Int)) = true := decide_eq_true c14
      (try simp only [hl6_1] at c14b0)
      clear c14
      obtain ⟨y110, hy110⟩ : ∃ y_ : List Int, y_ = ((rd_L1 x5_1 x18_1).set (x18_1 : Int).toNat (rd x6_1 x18_1)) := ⟨_, rfl⟩
      replace H : (impl_Graph_signedLaplacian.l0 k1 l1 (x5_1.set (x18_1 : Int).toNat y110) x6_1 (t105.length : Int) (wrap64 (x18_1 + 1)) a0_0 l0_1) = some r := by first | (rw [hy110]; with_reducible exact H) | (have H2_ := (Option.bind_some _ _).symm.trans H; rw [hy110]; with_reducible exact H2_) | (have H2_ := (Option.bind_some _ _).symm.trans H; with_reducible exact H2_) | with_reducible exact H | (rw [hy110]; exact H) | exact H
      have Ny110 := Aside0.mk hy110
      clear hy110
      obtain ⟨y112, hy112⟩ : ∃ y_ : List (List Int), y_ = (x5_1.set (x18_1 : Int).toNat y110) := ⟨_, rfl⟩
      replace H : (impl_Graph_signedLaplacian.l0 k1 l1 y112 x6_1 (t105.length : Int) (wrap64 (x18_1 + 1)) a0_0 l0_1) = some r := by first | (rw [hy112]; with_reducible exact H) | (have H2_ := (Option.bind_some _ _).symm.trans H; rw [hy112]; with_reducible exact H2_) | (have H2_ := (Option.bind_some _ _).symm.trans H; with_reducible exact H2_) | with_reducible exact H | (rw [hy112]; exact H) | exact H
      have Ny112 := Aside0.mk hy112
      clear hy112
      have H' := Aside0.mk H
      clear H
      have p108 : 0 ≤ (x18_1 : Int) := oD
      have q108 : x18_1 < (x6_1.length : Int) := oD
      obtain ⟨ad108, e108, hx108_0⟩ := Kd.at_int (Kd.R_reads' HO_6.out).2.2 x18_1 p108 q108
      cases e108
      replace p108 := eq_true p108
      replace q108 := eq_true q108
      obtain ⟨Ao16, co16, eo16⟩ := Kd.S_slice HO_5.out
      subst eo16
      have p109 : 0 ≤ (x18_1 : Int) := oD
      have q109 : x18_1 < (x5_1.length : Int) := oD
      obtain ⟨ad109, A109_0, c109_0, e109, hx109_0, hl109_0, hi109_0⟩ := at_L1 (Kd.S_reads' HO_5.out).2.2 x18_1 p109 q109
      cases e109
      obtain ⟨ce109, hce109, hMe109, hcc109⟩ := Kd.S_get HO_5.out [] x18_1 p109 (by first | exact q109 | exact oD | (have e_ := (Kd.S_reads' HO_5.out).1; omega))
      obtain ⟨ve109_0, rfl, ge109_0⟩ := hMe109
      have hv109_0 := hcc109 0 _ rfl
      rw [Nat.add_zero, show ((Kd.slice 2 (Kd.int .i64))).sz = 1 from rfl, Nat.mul_one] at hv109_0
      replace hv109_0 := Option.some.inj (hv109_0.symm.trans hx109_0)
      rw [hv109_0] at ge109_0
      have HL109_0 := Aside0.mk (show Kd.R (Kd.int .i64) 2 _ _ _ _ (rd_L1 x5_1 x18_1) from ge109_0)
      clear hv109_0 ge109_0
      have HX109_0 := Aside0.mk hx109_0
      clear hcc109 hce109
      have HR109_0 := Aside0.mk hi109_0
      have HC109_0 := Aside0.mk hl109_0
      clear hi109_0 hl109_0
      replace p109 := eq_true p109
      replace q109 := eq_true q109
      have p15 : 0 ≤ (x18_1 : Int) := oD
      have q15 : (x18_1 : Int) < (((rd_L1 x5_1 x18_1).length : Int) : Int) := oD
      obtain ⟨go15, co15, eo15, gb15, gl15, cl15, HG15⟩ := Kd.R_form HL109_0.out (by omega)
      (first | cases eo15 | (injection eo15 with ea_ en_ ec_; (first | subst ea_ | (injection ea_ with ea_; subst ea_)); subst ec_; clear en_))
      have GB15 := Aside0.mk gb15
      have GG15 := Aside0.mk HG15
      clear gb15 gl15 HG15
      obtain ⟨hx15_0, hf15_0⟩ := Kd.R_celln 0 HL109_0.out (x18_1 : Int) p15 q15
      replace p15 := eq_true p15
      replace q15 := eq_true q15
      have hq17 : (x18_1 : Int) < (x5_1.length : Int) := (by have h_ : (x18_1 : Int) < ((x5_1.length : Int) : Int) := oD; first | exact h_ | (have e_ := (Kd.S_reads' HO_5.out).1; omega) | simpa only [List.length_set, List.length_set] using h_)
      obtain ⟨oki17, ce17, hcl17, hM17, hcc17, hok17, hbk17⟩ := Kd.S_borrow HO_5.out [] (x18_1 : Int) oD (by first | exact hq17 | (have e_ := (Kd.S_reads' HO_5.out).1; omega))
      obtain ⟨ve17_0, rfl, ge17_0⟩ := hM17
      have hv17 := hcc17 0 _ rfl
      rw [Nat.add_zero, show ((Kd.slice 2 (Kd.int .i64))).sz = 1 from rfl, Nat.mul_one] at hv17
      replace hv17 := Option.some.inj (hv17.symm.trans HX109_0.out)
      subst hv17
      clear hcc17 hcl17
      replace ge17_0 := (show Kd.R (Kd.int .i64) 2 _ _ _ _ (rd_L1 x5_1 x18_1) from ge17_0)
      have HP17 := Kd.R_putg ge17_0 (x18_1 : Int) (rd x6_1 x18_1)
      go_wp2_with (first | ((with_reducible refine gate_store (t := 2) (p := 29) rfl ?_); refine store_event (t := 2) (p := 29) (v := ?vo_w18) (w1 := (wr.setCell ⟨go15, (x18_1 : Int).toNat, none⟩ (.int .i64 (rd x6_1 x18_1)))) ?hg ?ho ?hn ?hr ?_; (case ho => rfl); (case hg => rfl); (case hn => rfl); (case hr => first | (go_simp; done) | (go_simp; rfl)); intro w18 hw; have hg : wr.grownBy w18 (some go15) := (by rw [hw]; exact HP17.2); have hz_ : Kd.R (Kd.int .i64) 2 w18 w.heap.size oki17 (.slice (some ⟨go15, 0, none⟩) (rd_L1 x5_1 x18_1).length c109_0) y110 := (by rw [hw, Ny110.out]; exact HP17.1); have hp_ : Kd.S (Kd.slice 2 (Kd.int .i64)) 43 w18 w.heap.size (fun k_ => some k_ ≠ (.slice (some ad108) x6_1.length co9 : Value).ownBlock) (.slice (some ad109) x5_1.length co16) y112 := (by rw [Ny112.out]; exact hbk17 hg (fun k_ e_ => by injection e_ with e_; subst e_; exact ge17_0.1 _ rfl) (Kd.M_row hz_)); have hm_ := Kd.R_mono hz_ hok17; clear HP17 hbk17; have n0_ := Aside0.mk (hp_); have n1_ := Aside0.mk (Kd.R_grown1 (by (with_reducible repeat (first | apply Kd.R_alloc | apply Kd.R_drewN | apply Kd.R_drew)); exact HO_6.out) rfl hg ((HL109_0.out.1 _ rfl).1)); have n2_ := Aside0.mk (blk_grown (g := gb101) (o := .cells #[.int .i64 a0_0, .slice A0_1 l0_1.length c0_1] 26 (0, 0)) bk hg (Kd.R_ne HL109_0.out BK101.out (by decide))); have n3_ := Aside0.mk (cell_grown hg HX109_0.out (cell_ne (hok17 _ (ge17_0.1 _ rfl)).2)); have n4_ := Aside0.mk ((by rw [hw]; exact below_set (HB.out) GB15.out : Below w.heap.size w w18)); have n5_ := Aside0.mk (hm_); have n6_ := Aside0.mk ((Kd.R_reads' hm_).2.1); clear HO_5; clear HO_6; clear BK101; clear HX109_0; clear HB; clear HL109_0; have HO_5 := n0_; have HO_6 := n1_; have BK101 := n2_; have HX109_0 := n3_; have HB := n4_; have HL130 := n5_; have HC111 := n6_; clear n0_ n1_ n2_ n3_ n4_ n5_ n6_; clear hg hw hp_ hz_ hm_ hok17))
      (try simp only [← hl6_1])
      go_roundg k1
      case measure => have := HK1.out; omega
      case rel => exact ⟨(y112), (x6_1), (wrap64 (x18_1 + 1)), rs, H', ⟨by have := HK1.out; omega⟩, ⟨by (try simp only [hl6_1]); (with_reducible repeat (first | apply Kd.S_alloc | apply Kd.S_drewN | apply Kd.S_drew)); exact HO_5.out⟩, ⟨by (try simp only [hl6_1]); (with_reducible repeat (first | apply Kd.R_alloc | apply Kd.R_drewN | apply Kd.R_drew)); exact HO_6.out⟩, ⟨by (try simp only [hl6_1]); (with_reducible repeat (first | refine blk_drewN ?_ _ | refine blk_drew ?_ | refine blk_alloc ?_ _)); exact BK101.out⟩, ⟨bl⟩⟩
end Go.Proofs.Ytpckiapngjcijaa.G
