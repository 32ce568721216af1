/- Contracts of functions and plain lemmas, for the last text. -/
import Derived.Test.YtjohcjkidoalkaaGreatDoorIrB
set_option linter.unusedVariables false
set_option linter.unusedSimpArgs false
namespace Go.Proofs.YtjohcjkidoalkaaGreatDoor.PA
open Go.RowKit Go.PW.PrintWords Go.PW.PrintLast Go.PW.PrintMore
attribute [local go_sem] Zbn Zbl Zb3 Zb2 Zbb Zba Zbm Zbk
def Zb8.f (a0_0 : Int) (a0_1 : Int) (l0_2 : List Int) : Option (Int × Int × List Int) := (some (([] : List Int) : List Int)).bind fun y103 => (if y103.length + l0_2.length < 140737488355328 then (some (a0_0, a0_1, (y103 ++ l0_2))) else (none))
def Zb8.T1 : Bool × List (List Nat × List Nat) := (true, [([], []), ([0], [0]), ([], []), ([2], [2]), ([], []), ([], []), ([5], [5]), ([4, 6], [4, 6]), ([1, 3, 7], [1, 3, 7]), ([8, 7, 0, 1, 2, 3, 4, 5, 6, 7, 8], [8])])
def Zb8.B1 : List Nat := [0, 1, 0, 4, 0, 0, 32, 112, 255, 511]
theorem Zb8.tab1 : rtab .any (opsOf Tryz.f89 1) = Zb8.T1 := by kernel_rfl
theorem Zb8.bits1 : Zer Zb8.T1.2 Zb8.B1 = true := by kernel_rfl
set_option maxHeartbeats 8000000 in
set_option maxRecDepth 100000 in
theorem Zb8.calls (a0_0 : Int) (a0_1 : Int) (A0_2 : Option Addr) (c0_2 : Nat) (l0_2 : List Int) (r1 : Int) (r2 : Int) (r3 : List Int) (w : World) (hr0_2 : Kd.C (Kd.int .u8) w A0_2 l0_2.length l0_2) (hc0_2 : l0_2.length ≤ c0_2) (h : Zb8.f a0_0 a0_1 l0_2 = some (r1, r2, r3)) :
  Calls Tryz.prog 89 #[.agg #[.int .i64 a0_0, .int .i64 a0_1, .slice A0_2 l0_2.length c0_2]] w fun e w' => ∃ v2_ : Value, e = .returned (.agg #[.int .i64 r1, .int .i64 r2, v2_]) ∧ Kd.R (Kd.int .u8) 5 w' w.heap.size (fun _ => True) v2_ r3 ∧ Below w.heap.size w w' := by
 have hu52 := Tryz.underlying52
 have HR0_2 := Zad.mk hr0_2
 have HC0_2 := Zad.mk hc0_2
 clear hr0_2 hc0_2
 have HB := Zad.mk (Below.refl w.heap.size w)
 have H : ((some (([] : List Int) : List Int)).bind fun y103 => (if y103.length + l0_2.length < 140737488355328 then (some (a0_0, a0_1, (y103 ++ l0_2))) else (none))) = some (r1, r2, r3) := h
 clear h
 obtain ⟨y103, hy103⟩ : ∃ y_ : List Int, y_ = (([] : List Int)) := ⟨_, rfl⟩
 replace H : (if y103.length + l0_2.length < 140737488355328 then (some (a0_0, a0_1, (y103 ++ l0_2))) else (none)) = some (r1, r2, r3) := by first | (rw [hy103]; with_reducible exact H) | (have H2_ := (Option.bind_some _ _).symm.trans H; rw [hy103]; with_reducible exact H2_) | (have H2_ := (Option.bind_some _ _).symm.trans H; with_reducible exact H2_) | with_reducible exact H | (rw [hy103]; exact H) | exact H
 have Ny103 := Zad.mk hy103
 clear hy103
 by_cases c2 : y103.length + l0_2.length < 140737488355328
 ·rw [if_pos c2] at H
  have LMc2 := Zad.mk c2
  clear c2
  obtain ⟨y106, hy106⟩ : ∃ y_ : List Int, y_ = (y103 ++ l0_2) := ⟨_, rfl⟩
  replace H : (some (a0_0, a0_1, y106)) = some (r1, r2, r3) := by first | (rw [hy106]; with_reducible exact H) | (have H2_ := (Option.bind_some _ _).symm.trans H; rw [hy106]; with_reducible exact H2_) | (have H2_ := (Option.bind_some _ _).symm.trans H; with_reducible exact H2_) | with_reducible exact H | (rw [hy106]; exact H) | exact H
  have Ny106 := Zad.mk hy106
  clear hy106
  simp only [Option.some.injEq, Prod.mk.injEq] at H
  obtain ⟨rfl, rfl, rfl⟩ := H
  go_enter Tryz.func89, Tryz.ntmps89
  try go_wp2_with (first | ((with_reducible refine Zaz (N := 1) rfl ?_); refine Zay ?hg (N := 1) ?hd (cs := #[.int .i64 a0_0, .int .i64 a0_1, .slice A0_2 l0_2.length c0_2]) (t := 52) ?hr ?_; (case hd => rfl); (case hg => rfl); (case hr => first | (go_simp; done) | (go_simp; rfl)); intro g01 hg w3 hbox hb; have n0_ := Zad.mk (Zal (by with_reducible repeat first | exact HB.out | apply Zac | apply Zaa | apply Zab) hb); have n1_ := Zad.mk (hbox); have n2_ := Zad.mk ((by rw [hg]; exact (Zak (by with_reducible repeat first | exact HB.out | apply Zac | apply Zaa | apply Zab)) : w.heap.size ≤ g01)); have n3_ := n2_; clear HB; have HB := n0_; have K01 := n1_; have W01 := n2_; have E01 := n3_; clear hb hbox hg) | ((with_reducible refine Zaz (N := 2) rfl ?_); refine Zay ?hg (N := 2) ?hd (cs := #[.int .i64 0, .int .i64 0, .slice none 0 0]) (t := 52) ?hr ?_; (case hd => rfl); (case hg => rfl); (case hr => first | (go_simp; done) | (go_simp; rfl)); intro g02 hg w4 hbox hb; have n0_ := Zad.mk (Zat (g := g01) (o := .cells #[.int .i64 a0_0, .int .i64 a0_1, .slice A0_2 l0_2.length c0_2] 52 (0, 0)) (by (with_reducible repeat (first | refine Zaf ?_ _ | refine Zaj ?_ | refine Zag ?_ _)); exact K01.out) hb); have n1_ := Zad.mk (Zal (by with_reducible repeat first | exact HB.out | apply Zac | apply Zaa | apply Zab | refine Zai ?_ E01.out) hb); have n2_ := Zad.mk (hbox); have n3_ := Zad.mk ((by rw [hg]; exact (Zak (by with_reducible repeat first | exact HB.out | apply Zac | apply Zaa | apply Zab | refine Zai ?_ E01.out)) : w.heap.size ≤ g02)); have n4_ := n3_; have n5_ := Zad.mk ((by rw [hg]; exact Nat.ne_of_lt (Zcn (g := g01) (o := .cells #[.int .i64 a0_0, .int .i64 a0_1, .slice A0_2 l0_2.length c0_2] 52 (0, 0)) (by (with_reducible repeat (first | refine Zaf ?_ _ | refine Zaj ?_ | refine Zag ?_ _)); exact K01.out)) : g01 ≠ g02)); have n6_ := Zad.mk ((by rw [hg]; exact Nat.ne_of_gt (Zcn (g := g01) (o := .cells #[.int .i64 a0_0, .int .i64 a0_1, .slice A0_2 l0_2.length c0_2] 52 (0, 0)) (by (with_reducible repeat (first | refine Zaf ?_ _ | refine Zaj ?_ | refine Zag ?_ _)); exact K01.out)) : g02 ≠ g01)); clear K01; clear HB; have K01 := n0_; have HB := n1_; have K02 := n2_; have W02 := n3_; have E02 := n4_; have N01_02 := n5_; have N02_01 := n6_; clear hb hbox hg))
  have n0_ := Zad.mk (Zaj K01.out)
  have n1_ := Zad.mk (Zaj K02.out)
  have n2_ := Zad.mk (Zab HB.out)
  clear K01
  clear K02
  clear HB
  have K01 := n0_
  have K02 := n1_
  have HB := n2_
  clear n0_ n1_ n2_
  refine Zgd (n := 10) (S := fun w' => w'.cell? ⟨g01, 0, none⟩ = some (.int .i64 a0_0) ∧ w'.cell? ⟨g01, 1, none⟩ = some (.int .i64 a0_1) ∧ w'.cell? ⟨g01, 2, none⟩ = some (.slice A0_2 l0_2.length c0_2)) (ds := []) #[false, false, false, false, false, false, false, false, false, false] (by kernel_rfl) rfl rfl ⟨(Zah K01.out 0).trans rfl, (Zah K01.out 1).trans rfl, (Zah K01.out 2).trans rfl⟩ (fun hHeld => ?_); refine Zdy Zb8.tab1 Zb8.bits1 (fun HT_ HW_ => ?_)
  generalize w4.drew = w5 at K01 K02 HB hHeld ⊢
  refine pure_ (i := 0) (N := some 3) (v := ?_) (a' := ?_) #[true, false, false, false, false, false, false, false, false, false] rfl rfl (Zb4 HT_.out (by kernel_rfl)) (fun _ _ _ h => h) (Or.inl ⟨by rfl, ?_⟩) ?_ ?_
  rotate_left
  ·intro w'
   go_simp
   with_reducible rfl
  rotate_left
  ·simp only [Act.put, List.setIfInBounds_toArray, List.set_cons_zero, List.set_cons_succ, i64_w, i32_w]
   rfl
  refine pure_ (i := 2) (N := some 5) (v := ?_) (a' := ?_) #[true, false, true, false, false, false, false, false, false, false] rfl rfl (Zb4 HT_.out (by kernel_rfl)) (fun _ _ _ h => h) (Or.inl ⟨by rfl, ?_⟩) ?_ ?_
  rotate_left
  ·intro w'
   go_simp
   with_reducible rfl
  rotate_left
  ·simp only [Act.put, List.setIfInBounds_toArray, List.set_cons_zero, List.set_cons_succ, i64_w, i32_w]
   rfl
  refine pure_ (i := 5) (N := some 8) (v := ?_) (a' := ?_) #[true, false, true, false, false, true, false, false, false, false] rfl rfl (Zb4 HT_.out (by kernel_rfl)) (fun _ _ _ h => h) (Or.inl ⟨by rfl, ?_⟩) ?_ ?_
  rotate_left
  ·intro w'
   go_simp
   with_reducible rfl
  rotate_left
  ·simp only [Act.put, List.setIfInBounds_toArray, List.set_cons_zero, List.set_cons_succ, i64_w, i32_w]
   rfl
  refine take_ (i := 1) (N := some 4) (v := ?_) (a' := ?_) #[true, true, true, false, false, true, false, false, false, false] rfl rfl (Zc3 HT_.out HW_.out (by kernel_rfl)) (fun _ _ _ h => h) (Or.inl ⟨by rfl, ?_⟩) hHeld ?_ ?_
  rotate_left
  ·rintro w' ⟨s0, s1, s2⟩
   go_simp
   with_reducible rfl
  rotate_left
  ·simp only [Act.put, List.setIfInBounds_toArray, List.set_cons_zero, List.set_cons_succ, i64_w, i32_w]
   rfl
  refine take_ (i := 3) (N := some 6) (v := ?_) (a' := ?_) #[true, true, true, true, false, true, false, false, false, false] rfl rfl (Zc3 HT_.out HW_.out (by kernel_rfl)) (fun _ _ _ h => h) (Or.inl ⟨by rfl, ?_⟩) hHeld ?_ ?_
  rotate_left
  ·rintro w' ⟨s0, s1, s2⟩
   go_simp
   with_reducible rfl
  rotate_left
  ·simp only [Act.put, List.setIfInBounds_toArray, List.set_cons_zero, List.set_cons_succ, i64_w, i32_w]
   rfl
  refine take_ (i := 6) (N := some 9) (v := ?_) (a' := ?_) #[true, true, true, true, false, true, true, false, false, false] rfl rfl (Zc3 HT_.out HW_.out (by kernel_rfl)) (fun _ _ _ h => h) (Or.inl ⟨by rfl, ?_⟩) hHeld ?_ ?_
  rotate_left
  ·rintro w' ⟨s0, s1, s2⟩
   go_simp
   with_reducible rfl
  rotate_left
  ·simp only [Act.put, List.setIfInBounds_toArray, List.set_cons_zero, List.set_cons_succ, i64_w, i32_w]
   rfl
  refine one_ (i := 4) (N := some 7) #[true, true, true, true, true, true, true, false, false, false] rfl rfl (Zd0 HT_.out (by kernel_rfl)) (by decide) (fun K hK => ?_)
  refine Kd.R_lit_step (Kd.int .u8) _ 5 ?hg (N := 7) ?hd (xs := ([] : List Int)) (inner := []) (ok := fun _ => True) (okp := fun _ => True) ?hr ?hp (fun _ hk => hk) trivial (Below.refl _ _) (Nat.le_refl _) (by simp) ?_; (case hd => rfl); (case hg => rfl); (case hr => first | (go_simp; done) | (go_simp; rfl)); (case hp => exact (Reps.none _ _))
  intro v104 w6 ho7 hb hg_ hnew_
  clear hg_ hnew_
  (first | rw [← Ny103.out] at ho7 | (simp only [Int.reduceToNat] at ho7; rw [← Ny103.out] at ho7))
  have n0_ := Zad.mk (Kd.R_lower ho7 (Zak (by with_reducible repeat first | exact HB.out | apply Zac | apply Zaa | apply Zab | refine Zai ?_ E01.out | refine Zai ?_ E02.out)))
  have n1_ := Zad.mk (Zat (g := g01) (o := .cells #[.int .i64 a0_0, .int .i64 a0_1, .slice A0_2 l0_2.length c0_2] 52 (0, 0)) (by (with_reducible repeat (first | refine Zaf ?_ _ | refine Zaj ?_ | refine Zag ?_ _)); exact K01.out) hb)
  have n2_ := Zad.mk (Zat (g := g02) (o := .cells #[.int .i64 0, .int .i64 0, .slice none 0 0] 52 (0, 0)) (by (with_reducible repeat (first | refine Zaf ?_ _ | refine Zaj ?_ | refine Zag ?_ _)); exact K02.out) hb)
  have n3_ := Zad.mk (Zal (by with_reducible repeat first | exact HB.out | apply Zac | apply Zaa | apply Zab | refine Zai ?_ E01.out | refine Zai ?_ E02.out) hb)
  clear K01
  clear K02
  clear HB
  have HO105 := n0_
  have K01 := n1_
  have K02 := n2_
  have HB := n3_
  clear n0_ n1_ n2_ n3_
  clear hb ho7
  refine hK.out _ _ ⟨(Zah K01.out 0).trans rfl, (Zah K01.out 1).trans rfl, (Zah K01.out 2).trans rfl⟩ (fun hHeld => ?_)
  clear hK K
  refine norm_ (a' := ?_) ?_ ?_
  rotate_left
  ·show Act.put _ (some 7) _ = _
   simp only [Act.put, List.setIfInBounds_toArray, List.set_cons_zero, List.set_cons_succ, i64_w, i32_w]
   rfl
  refine one_ (i := 7) (N := some 10) #[true, true, true, true, true, true, true, true, false, false] rfl rfl (Zd0 HT_.out (by kernel_rfl)) (by decide) (fun K hK => ?_)
  refine Kd.R_append_rows_step (Kd.int .u8) (w0 := w) w.heap.size (by rfl) (.tmp 7) (.tmp 9) 50 5 (.int .u8 0) 1 rfl Tryz.underlying50 info5 rfl (by decide) (by omega) v104 y103 l0_2 _ _ _ (fun _ => True) (fun _ => False) rfl rfl ?aO ?aR (fun _ _ h => h) (fun _ h => h.elim) ?aF ?aB ?aS ?aL ?_
  (case aR => repeat (first | exact (Kd.C_below HR0_2.out HB.out) | (with_reducible refine Kd.C_alloc ?_ _) | (with_reducible refine Kd.C_drewN ?_ _) | (with_reducible refine Kd.C_drew ?_)))
  (case aB => exact (by with_reducible repeat first | exact HB.out | apply Zac | apply Zaa | apply Zab | refine Zai ?_ E01.out | refine Zai ?_ E02.out))
  (case aF => exact (fun _ _ => trivial))
  (case aO => exact (by (with_reducible repeat (first | apply Kd.R_alloc | apply Kd.R_drewN | apply Kd.R_drew)); exact HO105.out))
  (case aS => exact (Zak (by with_reducible repeat first | exact HB.out | apply Zac | apply Zaa | apply Zab | refine Zai ?_ E01.out | refine Zai ?_ E02.out)))
  (case aL => have := LMc2.out; omega)
  intro v107 w8 ho hb hg hat
  rw [← Ny106.out] at ho
  have n0_ := Zad.mk (Zbh (g := g01) (o := .cells #[.int .i64 a0_0, .int .i64 a0_1, .slice A0_2 l0_2.length c0_2] 52 (0, 0)) (by (with_reducible repeat (first | refine Zaf ?_ _ | refine Zaj ?_ | refine Zag ?_ _)); exact K01.out) hg (Kd.R_ne HO105.out K01.out (by decide)))
  have n1_ := Zad.mk (Zbh (g := g02) (o := .cells #[.int .i64 0, .int .i64 0, .slice none 0 0] 52 (0, 0)) (by (with_reducible repeat (first | refine Zaf ?_ _ | refine Zaj ?_ | refine Zag ?_ _)); exact K02.out) hg (Kd.R_ne HO105.out K02.out (by decide)))
  have n2_ := Zad.mk (hb)
  have n3_ := Zad.mk (ho)
  clear K01
  clear K02
  clear HB
  clear HO105
  have K01 := n0_
  have K02 := n1_
  have HB := n2_
  have HO108 := n3_
  clear n0_ n1_ n2_ n3_
  clear ho hb hg hat
  obtain ⟨Ao9, co9, eo9⟩ := Kd.R_slice HO108.out
  (first | subst eo9 | (injection eo9 with f1_ f2_ f3_; have f4_ := f1_.symm; have f5_ := f3_.symm; clear f1_ f2_ f3_; subst f4_; subst f5_))
  refine hK.out _ _ ⟨(Zah K01.out 0).trans rfl, (Zah K01.out 1).trans rfl, (Zah K01.out 2).trans rfl⟩ (fun hHeld => ?_)
  clear hK K
  refine norm_ (a' := ?_) ?_ ?_
  rotate_left
  ·show Act.put _ (some 10) _ = _
   simp only [Act.put, List.setIfInBounds_toArray, List.set_cons_zero, List.set_cons_succ, i64_w, i32_w]
   rfl
  refine pure_ (i := 8) (N := some 11) (v := ?_) (a' := ?_) #[true, true, true, true, true, true, true, true, true, false] rfl rfl (Zb4 HT_.out (by kernel_rfl)) (fun _ _ _ h => h) (Or.inl ⟨by rfl, ?_⟩) ?_ ?_
  rotate_left
  ·intro w'
   go_simp
   with_reducible rfl
  rotate_left
  ·simp only [Act.put, List.setIfInBounds_toArray, List.set_cons_zero, List.set_cons_succ, i64_w, i32_w]
   rfl
  refine one_ (i := 9) (N := none) #[true, true, true, true, true, true, true, true, true, true] rfl rfl (Zd0 HT_.out (by kernel_rfl)) (by decide) (fun K hK => ?_)
  have hs10 : w8.cell? ⟨g02, 0, none⟩ = some (.int .i64 0) := (Zah K02.out 0).trans rfl
  have hfs10 := Zae K02.out 0
  have hns10_0 := N01_02.out
  have hms10_0 := N02_01.out
  have hs11 : w8.cell? ⟨g02, 1, none⟩ = some (.int .i64 0) := (Zah K02.out 1).trans rfl
  have hfs11 := Zae K02.out 1
  have hns11_0 := N01_02.out
  have hms11_0 := N02_01.out
  have hs12 : w8.cell? ⟨g02, 2, none⟩ = some (.slice none 0 0) := (Zah K02.out 2).trans rfl
  have hfs12 := Zae K02.out 2
  have hns12_0 := N01_02.out
  have hms12_0 := N02_01.out
  refine skip_ (w1 := ?_) (by rfl) rfl ?_ ?_
  rotate_left
  ·go_simp
   rfl
  refine hK.out _ _ ⟨((Za5 (p := ⟨g02, _, none⟩) N01_02.out _).trans (((Za5 (p := ⟨g02, _, none⟩) N01_02.out _).trans (((Za5 (p := ⟨g02, _, none⟩) N01_02.out _).trans (hHeld.1)))))), ((Za5 (p := ⟨g02, _, none⟩) N01_02.out _).trans (((Za5 (p := ⟨g02, _, none⟩) N01_02.out _).trans (((Za5 (p := ⟨g02, _, none⟩) N01_02.out _).trans (hHeld.2.1)))))), ((Za5 (p := ⟨g02, _, none⟩) N01_02.out _).trans (((Za5 (p := ⟨g02, _, none⟩) N01_02.out _).trans (((Za5 (p := ⟨g02, _, none⟩) N01_02.out _).trans (hHeld.2.2))))))⟩ (fun hHeld => ?_)
  clear hK K
  refine done_ (Ze5 HT_.out (by kernel_rfl)) ?_
  try go_wp2
  refine bodyPost_ret (results_cell_row rfl _ _ g02 52 #[.int .i64 a0_0, .int .i64 a0_1, .slice Ao9 y106.length co9] (0, 0) _ rfl (by (with_reducible repeat (first | refine Zaf ?_ _ | refine Zaj ?_ | refine Zag ?_ _)); refine Zav (cs := #[.int .i64 a0_0, .int .i64 a0_1, .slice none 0 0]) ?_ 2 _ rfl; (with_reducible repeat (first | refine Zaf ?_ _ | refine Zaj ?_ | refine Zag ?_ _)); refine Zav (cs := #[.int .i64 a0_0, .int .i64 0, .slice none 0 0]) ?_ 1 _ rfl; (with_reducible repeat (first | refine Zaf ?_ _ | refine Zaj ?_ | refine Zag ?_ _)); refine Zav (cs := #[.int .i64 0, .int .i64 0, .slice none 0 0]) ?_ 0 _ rfl; (with_reducible repeat (first | refine Zaf ?_ _ | refine Zaj ?_ | refine Zag ?_ _)); exact K02.out) Tryz.underlying52 rfl (by kernel_rfl)) rfl ?_
  exact ⟨_, by first | rfl | (simp [Zap, Zao] <;> rfl) | (simp [*, Zap, Zao] <;> rfl), by (with_reducible repeat (first | apply Kd.R_alloc | apply Kd.R_drewN | apply Kd.R_drew)); exact Kd.R_mono (Kd.R_far (p := ⟨g02, 2, none⟩) (Kd.R_far (p := ⟨g02, 1, none⟩) (Kd.R_far (p := ⟨g02, 0, none⟩) (Kd.R_types HO108.out K02.out (by decide)) (fun _ hk => hk.2) (.int .i64 a0_0)) (fun _ hk => hk.2) (.int .i64 a0_1)) (fun _ hk => hk.2) (.slice Ao9 y106.length co9)) (fun _ hk => trivial), by repeat (first | (with_reducible first | exact HB.out | apply Zac | apply Zaa | apply Zab | refine Zai ?_ E01.out | refine Zai ?_ E02.out) | exact HB.out)⟩
 ·rw [if_neg c2] at H
  exact absurd H (by simp)
def Zbf.l0 : Nat → Int → Int → Int → Int → List Int → Option (Int × Int × List Int)
 | 0, _, _, _, _, _ => none
 | k + 1, x10, x11, X090, X091, X092 => if x11 < x10 then (if 0 ≤ x11 then (if x11 < (X092.length : Int) then ((Zcb.f (rd X092 x11)).bind fun t110 => (if t110 = true then (Zbf.l0 k x10 (wrap64 (x11 + 1)) X090 X091 (X092.set (x11 : Int).toNat 46)) else (Zbf.l0 k x10 (wrap64 (x11 + 1)) X090 X091 X092))) else (none)) else (none)) else (some (X090, X091, X092))
def Zbf.f (k : Nat) (a0_0 : Int) (a0_1 : Int) (l0_2 : List Int) : Option (Int × Int × List Int) := (Zb8.f a0_0 a0_1 l0_2).bind fun bt103 => (Zbf.l0 k (bt103.2.2.length : Int) 0 bt103.1 bt103.2.1 bt103.2.2)
set_option maxHeartbeats 8000000 in
set_option maxRecDepth 100000 in
theorem Zbf.calls (k : Nat) (a0_0 : Int) (a0_1 : Int) (A0_2 : Option Addr) (c0_2 : Nat) (l0_2 : List Int) (r1 : Int) (r2 : Int) (r3 : List Int) (w : World) (hr0_2 : Kd.C (Kd.int .u8) w A0_2 l0_2.length l0_2) (hc0_2 : l0_2.length ≤ c0_2) (h : Zbf.f k a0_0 a0_1 l0_2 = some (r1, r2, r3)) :
  Calls Tryz.prog 102 #[.agg #[.int .i64 a0_0, .int .i64 a0_1, .slice A0_2 l0_2.length c0_2]] w fun e w' => ∃ v2_ : Value, e = .returned (.agg #[.int .i64 r1, .int .i64 r2, v2_]) ∧ Kd.R (Kd.int .u8) 5 w' w.heap.size (fun _ => True) v2_ r3 ∧ Below w.heap.size w w' := by
 have hu52 := Tryz.underlying52
 have HR0_2 := Zad.mk hr0_2
 have HC0_2 := Zad.mk hc0_2
 clear hr0_2 hc0_2
 have HB := Zad.mk (Below.refl w.heap.size w)
 have H : ((Zb8.f a0_0 a0_1 l0_2).bind fun bt103 => (Zbf.l0 k (bt103.2.2.length : Int) 0 bt103.1 bt103.2.1 bt103.2.2)) = some (r1, r2, r3) := h
 clear h
 replace H := Option.bind_eq_some_iff.mp H
 obtain ⟨⟨t103, t104, t105⟩, A20, H⟩ := H
 replace H : (Zbf.l0 k (t105.length : Int) 0 t103 t104 t105) = some (r1, r2, r3) := H
 have A2 := Zad.mk A20
 clear A20
 have H' := Zad.mk H
 clear H
 go_enter Tryz.func102, Tryz.ntmps102
 go_wp2_with (first | ((with_reducible refine Zaz (N := 1) rfl ?_); refine Zay ?hg (N := 1) ?hd (cs := #[.int .i64 a0_0, .int .i64 a0_1, .slice A0_2 l0_2.length c0_2]) (t := 52) ?hr ?_; (case hd => rfl); (case hg => rfl); (case hr => first | (go_simp; done) | (go_simp; rfl)); intro g01 hg w3 hbox hb; have n0_ := Zad.mk (Zal (by with_reducible repeat first | exact HB.out | apply Zac | apply Zaa | apply Zab) hb); have n1_ := Zad.mk (hbox); have n2_ := Zad.mk ((by rw [hg]; exact (Zak (by with_reducible repeat first | exact HB.out | apply Zac | apply Zaa | apply Zab)) : w.heap.size ≤ g01)); have n3_ := n2_; clear HB; have HB := n0_; have K01 := n1_; have W01 := n2_; have E01 := n3_; clear hb hbox hg) | ((with_reducible refine Zaz (N := 2) rfl ?_); refine Zay ?hg (N := 2) ?hd (cs := #[.int .i64 0, .int .i64 0, .slice none 0 0]) (t := 52) ?hr ?_; (case hd => rfl); (case hg => rfl); (case hr => first | (go_simp; done) | (go_simp; rfl)); intro g02 hg w4 hbox hb; have n0_ := Zad.mk (Zat (g := g01) (o := .cells #[.int .i64 a0_0, .int .i64 a0_1, .slice A0_2 l0_2.length c0_2] 52 (0, 0)) (by (with_reducible repeat (first | refine Zaf ?_ _ | refine Zaj ?_ | refine Zag ?_ _)); exact K01.out) hb); have n1_ := Zad.mk (Zal (by with_reducible repeat first | exact HB.out | apply Zac | apply Zaa | apply Zab | refine Zai ?_ E01.out) hb); have n2_ := Zad.mk (hbox); have n3_ := Zad.mk ((by rw [hg]; exact (Zak (by with_reducible repeat first | exact HB.out | apply Zac | apply Zaa | apply Zab | refine Zai ?_ E01.out)) : w.heap.size ≤ g02)); have n4_ := n3_; have n5_ := Zad.mk ((by rw [hg]; exact Nat.ne_of_lt (Zcn (g := g01) (o := .cells #[.int .i64 a0_0, .int .i64 a0_1, .slice A0_2 l0_2.length c0_2] 52 (0, 0)) (by (with_reducible repeat (first | refine Zaf ?_ _ | refine Zaj ?_ | refine Zag ?_ _)); exact K01.out)) : g01 ≠ g02)); have n6_ := Zad.mk ((by rw [hg]; exact Nat.ne_of_gt (Zcn (g := g01) (o := .cells #[.int .i64 a0_0, .int .i64 a0_1, .slice A0_2 l0_2.length c0_2] 52 (0, 0)) (by (with_reducible repeat (first | refine Zaf ?_ _ | refine Zaj ?_ | refine Zag ?_ _)); exact K01.out)) : g02 ≠ g01)); clear K01; clear HB; have K01 := n0_; have HB := n1_; have K02 := n2_; have W02 := n3_; have E02 := n4_; have N01_02 := n5_; have N02_01 := n6_; clear hb hbox hg; have hnb5 := N01_02.out; have hnc5 := N02_01.out; have hcz6_0 : w4.cell? ⟨g01, 0, none⟩ = some (.int .i64 a0_0) := (Zah K01.out 0).trans rfl; have hcz6_1 : w4.cell? ⟨g01, 1, none⟩ = some (.int .i64 a0_1) := (Zah K01.out 1).trans rfl; have hcz6_2 : w4.cell? ⟨g01, 2, none⟩ = some (.slice A0_2 l0_2.length c0_2) := (Zah K01.out 2).trans rfl; have hfz6_0 := Zae K01.out 0; have hfz6_1 := Zae K01.out 1; have hfz6_2 := Zae K01.out 2) | ((with_reducible refine Zas (f := 89) rfl ?_); refine Zbg (some 7) rfl rfl Tryz.func89 (by kernel_rfl) rfl #[.agg #[.int .i64 a0_0, .int .i64 a0_1, .slice A0_2 l0_2.length c0_2]] rfl (by (try simp only [List.map_toArray, List.map_cons, List.map_nil]); first | done | rfl | (simp only [List.length_drop, List.length_take]; rfl)) ?_; (with_reducible refine (Zb8.calls a0_0 a0_1 _ _ l0_2 t103 t104 t105 _ ?side1 ?side2 A2.out).mono ?_); (case side1 => repeat (first | exact (Kd.C_below HR0_2.out HB.out) | (with_reducible refine Kd.C_alloc ?_ _) | (with_reducible refine Kd.C_drewN ?_ _) | (with_reducible refine Kd.C_drew ?_))); (case side2 => exact HC0_2.out); rintro e w7 ⟨v106, rfl, ho0, hb⟩; refine ⟨_, rfl, ?_⟩; have n0_ := Zad.mk (Kd.R_lower ho0 (Zak (by with_reducible repeat first | exact HB.out | apply Zac | apply Zaa | apply Zab | refine Zai ?_ E01.out | refine Zai ?_ E02.out))); have n1_ := Zad.mk (Zat (g := g01) (o := .cells #[.int .i64 a0_0, .int .i64 a0_1, .slice A0_2 l0_2.length c0_2] 52 (0, 0)) (by (with_reducible repeat (first | refine Zaf ?_ _ | refine Zaj ?_ | refine Zag ?_ _)); exact K01.out) hb); have n2_ := Zad.mk (Zat (g := g02) (o := .cells #[.int .i64 0, .int .i64 0, .slice none 0 0] 52 (0, 0)) (by (with_reducible repeat (first | refine Zaf ?_ _ | refine Zaj ?_ | refine Zag ?_ _)); exact K02.out) hb); have n3_ := Zad.mk (Zal (by with_reducible repeat first | exact HB.out | apply Zac | apply Zaa | apply Zab | refine Zai ?_ E01.out | refine Zai ?_ E02.out) hb); clear K01; clear K02; clear HB; have HO107 := n0_; have K01 := n1_; have K02 := n2_; have HB := n3_) | ((with_reducible refine Zaz (N := 3) rfl ?_); refine Zay ?hg (N := 3) ?hd (cs := #[.int .i64 0, .int .i64 0, .slice none 0 0]) (t := 52) ?hr ?_; (case hd => rfl); (case hg => rfl); (case hr => first | (go_simp; done) | (go_simp; rfl)); intro g08 hg w8 hbox hb; have n0_ := Zad.mk (Kd.R_below (by (with_reducible repeat (first | apply Kd.R_alloc | apply Kd.R_drewN | apply Kd.R_drew)); exact HO107.out) hb); have n1_ := Zad.mk (Zat (g := g01) (o := .cells #[.int .i64 a0_0, .int .i64 a0_1, .slice A0_2 l0_2.length c0_2] 52 (0, 0)) (by (with_reducible repeat (first | refine Zaf ?_ _ | refine Zaj ?_ | refine Zag ?_ _)); exact K01.out) hb); have n2_ := Zad.mk (Zat (g := g02) (o := .cells #[.int .i64 0, .int .i64 0, .slice none 0 0] 52 (0, 0)) (by (with_reducible repeat (first | refine Zaf ?_ _ | refine Zaj ?_ | refine Zag ?_ _)); exact K02.out) hb); have n3_ := Zad.mk (Zal (by with_reducible repeat first | exact HB.out | apply Zac | apply Zaa | apply Zab | refine Zai ?_ E01.out | refine Zai ?_ E02.out) hb); have n4_ := Zad.mk (hbox); have n5_ := Zad.mk ((by rw [hg]; exact (Zak (by with_reducible repeat first | exact HB.out | apply Zac | apply Zaa | apply Zab | refine Zai ?_ E01.out | refine Zai ?_ E02.out)) : w.heap.size ≤ g08)); have n6_ := Zad.mk ((by rw [hg]; exact (Zak (by with_reducible repeat first | exact HB.out | apply Zac | apply Zaa | apply Zab | refine Zai ?_ E01.out | refine Zai ?_ E02.out)) : w.heap.size ≤ g08)); have n7_ := Zad.mk ((by rw [hg]; exact Nat.ne_of_lt (Zcn (g := g01) (o := .cells #[.int .i64 a0_0, .int .i64 a0_1, .slice A0_2 l0_2.length c0_2] 52 (0, 0)) (by (with_reducible repeat (first | refine Zaf ?_ _ | refine Zaj ?_ | refine Zag ?_ _)); exact K01.out)) : g01 ≠ g08)); have n8_ := Zad.mk ((by rw [hg]; exact Nat.ne_of_gt (Zcn (g := g01) (o := .cells #[.int .i64 a0_0, .int .i64 a0_1, .slice A0_2 l0_2.length c0_2] 52 (0, 0)) (by (with_reducible repeat (first | refine Zaf ?_ _ | refine Zaj ?_ | refine Zag ?_ _)); exact K01.out)) : g08 ≠ g01)); have n9_ := Zad.mk ((by rw [hg]; exact Nat.ne_of_lt (Zcn (g := g02) (o := .cells #[.int .i64 0, .int .i64 0, .slice none 0 0] 52 (0, 0)) (by (with_reducible repeat (first | refine Zaf ?_ _ | refine Zaj ?_ | refine Zag ?_ _)); exact K02.out)) : g02 ≠ g08)); have n10_ := Zad.mk ((by rw [hg]; exact Nat.ne_of_gt (Zcn (g := g02) (o := .cells #[.int .i64 0, .int .i64 0, .slice none 0 0] 52 (0, 0)) (by (with_reducible repeat (first | refine Zaf ?_ _ | refine Zaj ?_ | refine Zag ?_ _)); exact K02.out)) : g08 ≠ g02)); clear HO107; clear K01; clear K02; clear HB; have HO107 := n0_; have K01 := n1_; have K02 := n2_; have HB := n3_; have K08 := n4_; have W08 := n5_; have E08 := n6_; have N01_08 := n7_; have N08_01 := n8_; have N02_08 := n9_; have N08_02 := n10_; clear hb hbox hg; have hnb9 := N08_01.out; have hnc9 := N01_08.out; have hnb10 := N08_02.out; have hnc10 := N02_08.out; have hcz11_0 : w8.cell? ⟨g08, 0, none⟩ = some (.int .i64 0) := (Zah K08.out 0).trans rfl; have hcz11_1 : w8.cell? ⟨g08, 1, none⟩ = some (.int .i64 0) := (Zah K08.out 1).trans rfl; have hcz11_2 : w8.cell? ⟨g08, 2, none⟩ = some (.slice none 0 0) := (Zah K08.out 2).trans rfl; have hfz11_0 := Zae K08.out 0; have hfz11_1 := Zae K08.out 1; have hfz11_2 := Zae K08.out 2; obtain ⟨Ao12, co12, eo12⟩ := Kd.R_slice HO107.out; subst eo12))
 go_loopg [11] k (fun kq v11 w' => ∃ (x11_1 : Int) (X092_1 : List Int) (u109002 : Value), v11 = .int .i64 x11_1 ∧ u109002 = .slice Ao12 X092_1.length co12 ∧ Zad (Zbf.l0 kq (t105.length : Int) x11_1 t103 t104 X092_1 = some (r1, r2, r3)) ∧ Zad (kq ≤ k) ∧ Zad (Kd.R (Kd.int .u8) 5 w' w.heap.size (fun _ => True) u109002 X092_1) ∧ Zad (w'.heap[g01]? = some (.cells #[.int .i64 a0_0, .int .i64 a0_1, (.slice A0_2 l0_2.length c0_2)] 52 (0, 0))) ∧ Zad (w'.heap[g02]? = some (.cells #[.int .i64 0, .int .i64 0, (.slice none 0 0)] 52 (0, 0))) ∧ Zad (w'.heap[g08]? = some (.cells #[.int .i64 t103, .int .i64 t104, u109002] 52 (0, 0))) ∧ Zad (Below w.heap.size w w'))
 case atStart => exact ⟨(0), (t105), (.slice Ao12 t105.length co12), (by first | rfl | (simp; done) | (simp [*]; done)), rfl, H', ⟨Nat.le_refl _⟩, ⟨by (with_reducible repeat (first | apply Kd.R_alloc | apply Kd.R_drewN | apply Kd.R_drew)); exact Kd.R_mono (Kd.R_far (p := ⟨g08, 2, none⟩) (Kd.R_far (p := ⟨g08, 1, none⟩) (Kd.R_far (p := ⟨g08, 0, none⟩) (Kd.R_types HO107.out K08.out (by decide)) (fun _ hk => hk.2) (.int .i64 t103)) (fun _ hk => hk.2) (.int .i64 t104)) (fun _ hk => hk.2) (.slice Ao12 t105.length co12)) (fun _ hk => trivial)⟩, ⟨by (with_reducible repeat (first | refine Zaf ?_ _ | refine Zaj ?_ | refine Zag ?_ _)); refine Zb6 ?_ N01_08.out _; (with_reducible repeat (first | refine Zaf ?_ _ | refine Zaj ?_ | refine Zag ?_ _)); refine Zb6 ?_ N01_08.out _; (with_reducible repeat (first | refine Zaf ?_ _ | refine Zaj ?_ | refine Zag ?_ _)); refine Zb6 ?_ N01_08.out _; (with_reducible repeat (first | refine Zaf ?_ _ | refine Zaj ?_ | refine Zag ?_ _)); exact K01.out⟩, ⟨by (with_reducible repeat (first | refine Zaf ?_ _ | refine Zaj ?_ | refine Zag ?_ _)); refine Zb6 ?_ N02_08.out _; (with_reducible repeat (first | refine Zaf ?_ _ | refine Zaj ?_ | refine Zag ?_ _)); refine Zb6 ?_ N02_08.out _; (with_reducible repeat (first | refine Zaf ?_ _ | refine Zaj ?_ | refine Zag ?_ _)); refine Zb6 ?_ N02_08.out _; (with_reducible repeat (first | refine Zaf ?_ _ | refine Zaj ?_ | refine Zag ?_ _)); exact K02.out⟩, ⟨by (with_reducible repeat (first | refine Zaf ?_ _ | refine Zaj ?_ | refine Zag ?_ _)); refine Zav (cs := #[.int .i64 t103, .int .i64 t104, .slice none 0 0]) ?_ 2 _ rfl; (with_reducible repeat (first | refine Zaf ?_ _ | refine Zaj ?_ | refine Zag ?_ _)); refine Zav (cs := #[.int .i64 t103, .int .i64 0, .slice none 0 0]) ?_ 1 _ rfl; (with_reducible repeat (first | refine Zaf ?_ _ | refine Zaj ?_ | refine Zag ?_ _)); refine Zav (cs := #[.int .i64 0, .int .i64 0, .slice none 0 0]) ?_ 0 _ rfl; (with_reducible repeat (first | refine Zaf ?_ _ | refine Zaj ?_ | refine Zag ?_ _)); exact K08.out⟩, ⟨by with_reducible repeat first | exact HB.out | apply Zac | apply Zaa | apply Zab | refine Zai ?_ E01.out | refine Zai ?_ E02.out | refine Zai ?_ E08.out⟩⟩
 case round =>
  clear H'
  obtain ⟨x11_1, X092_1, u109002, rfl, rfl, HA, HK1, HO_109002, K01, K02, K08, HB⟩ := hrel
  cases gk with
  | zero => exact absurd HA.out (by simp [Zbf.l0])
  | succ k1 =>
   have H := HA.out
   clear HA
   simp only [Zbf.l0] at H
   by_cases c13 : x11_1 < (t105.length : Int)
   ·rw [if_pos c13] at H
    have c13b0 : decide (x11_1 < (t105.length : Int)) = true := decide_eq_true c13
    clear c13
    by_cases c14 : 0 ≤ x11_1
    ·rw [if_pos c14] at H
     have c14b0 : decide (0 ≤ x11_1) = true := decide_eq_true c14
     clear c14
     by_cases c15 : x11_1 < (X092_1.length : Int)
     ·rw [if_pos c15] at H
      have c15b0 : decide (x11_1 < (X092_1.length : Int)) = true := decide_eq_true c15
      clear c15
      replace H := Option.bind_eq_some_iff.mp H
      obtain ⟨t110, A160, H⟩ := H
      replace H : (if t110 = true then (Zbf.l0 k1 (t105.length : Int) (wrap64 (x11_1 + 1)) t103 t104 (X092_1.set (x11_1 : Int).toNat 46)) else (Zbf.l0 k1 (t105.length : Int) (wrap64 (x11_1 + 1)) t103 t104 X092_1)) = some (r1, r2, r3) := H
      have A16 := Zad.mk A160
      clear A160
      by_cases c17 : t110 = true
      ·subst c17
       have H1 : (Zbf.l0 k1 (t105.length : Int) (wrap64 (x11_1 + 1)) t103 t104 (X092_1.set (x11_1 : Int).toNat 46)) = some (r1, r2, r3) := by rw [if_pos rfl] at H; exact H
       clear H
       have H := H1
       clear H1
       obtain ⟨y111, hy111⟩ : ∃ y_ : List Int, y_ = (X092_1.set (x11_1 : Int).toNat 46) := ⟨_, rfl⟩
       replace H : (Zbf.l0 k1 (t105.length : Int) (wrap64 (x11_1 + 1)) t103 t104 y111) = some (r1, r2, r3) := by first | (rw [hy111]; with_reducible exact H) | (have H2_ := (Option.bind_some _ _).symm.trans H; rw [hy111]; with_reducible exact H2_) | (have H2_ := (Option.bind_some _ _).symm.trans H; with_reducible exact H2_) | with_reducible exact H | (rw [hy111]; exact H) | exact H
       have Ny111 := Zad.mk hy111
       clear hy111
       have H' := Zad.mk H
       clear H
       have hnb19 := N08_01.out
       have hnc19 := N01_08.out
       have hnb20 := N08_02.out
       have hnc20 := N02_08.out
       have hcz21_0 : wr.cell? ⟨g08, 0, none⟩ = some (.int .i64 t103) := (Zah K08.out 0).trans rfl
       have hcz21_1 : wr.cell? ⟨g08, 1, none⟩ = some (.int .i64 t104) := (Zah K08.out 1).trans rfl
       have hcz21_2 : wr.cell? ⟨g08, 2, none⟩ = some (.slice Ao12 X092_1.length co12) := (Zah K08.out 2).trans rfl
       have hfz21_0 := Zae K08.out 0
       have hfz21_1 := Zae K08.out 1
       have hfz21_2 := Zae K08.out 2
       skip
       have p109 : 0 ≤ (x11_1 : Int) := of_decide_eq_true (by first | (with_reducible assumption) | assumption)
       have q109 : x11_1 < (X092_1.length : Int) := of_decide_eq_true (by first | (with_reducible assumption) | assumption)
       obtain ⟨ad109, e109, hx109_0⟩ := Kd.at_int (Kd.R_reads' HO_109002.out).2.2 x11_1 p109 q109
       cases e109
       replace p109 := eq_true p109
       replace q109 := eq_true q109
       have q9_ := eq_true (show x11_1 < (t105.length : Int) from of_decide_eq_true (by first | (with_reducible assumption) | assumption))
       go_wp2_with (first | ((with_reducible refine Zas (f := 91) rfl ?_); refine Zbg (some 17) rfl rfl Tryz.func91 (by kernel_rfl) rfl #[.int .u8 (rd X092_1 x11_1)] rfl (by (try simp only [List.map_toArray, List.map_cons, List.map_nil]); first | done | rfl | (simp only [List.length_drop, List.length_take]; rfl)) ?_; (with_reducible refine (Zcb.calls (rd X092_1 x11_1) true _ A16.out).mono ?_); rintro e w' ⟨rfl, ⟨nd, rfl⟩⟩; refine ⟨_, rfl, ?_⟩; (try (rw [Zem wr]; generalize hq_ : World.drewN wr _ = wr; have n0_ : Zad (Kd.R (Kd.int .u8) 5 wr w.heap.size (fun _ => True) (.slice (some ad109) X092_1.length co12) X092_1) := ⟨by rw [← hq_]; exact (by (with_reducible repeat (first | apply Kd.R_alloc | apply Kd.R_drewN | apply Kd.R_drew)); exact HO_109002.out)⟩; have n1_ : Zad (wr.heap[g01]? = some (.cells #[.int .i64 a0_0, .int .i64 a0_1, .slice A0_2 l0_2.length c0_2] 52 (0, 0))) := ⟨by rw [← hq_]; exact (by (with_reducible repeat (first | refine Zaf ?_ _ | refine Zaj ?_ | refine Zag ?_ _)); exact K01.out)⟩; have n2_ : Zad (wr.heap[g02]? = some (.cells #[.int .i64 0, .int .i64 0, .slice none 0 0] 52 (0, 0))) := ⟨by rw [← hq_]; exact (by (with_reducible repeat (first | refine Zaf ?_ _ | refine Zaj ?_ | refine Zag ?_ _)); exact K02.out)⟩; have n3_ : Zad (wr.heap[g08]? = some (.cells #[.int .i64 t103, .int .i64 t104, .slice (some ad109) X092_1.length co12] 52 (0, 0))) := ⟨by rw [← hq_]; exact (by (with_reducible repeat (first | refine Zaf ?_ _ | refine Zaj ?_ | refine Zag ?_ _)); exact K08.out)⟩; have n4_ : Zad (Below w.heap.size w wr) := ⟨by rw [← hq_]; exact (by with_reducible repeat first | exact HB.out | apply Zac | apply Zaa | apply Zab | refine Zai ?_ E01.out | refine Zai ?_ E02.out | refine Zai ?_ E08.out)⟩; clear HO_109002 K01 K02 K08 HB hq_; have HO_109002 := n0_; have K01 := n1_; have K02 := n2_; have K08 := n3_; have HB := n4_)); have hzz2 : wr.cell? ⟨g08, 2, none⟩ = some (.slice (some ad109) X092_1.length co12) := (Zah K08.out 2).trans rfl; have p18 : 0 ≤ (x11_1 : Int) := of_decide_eq_true (by first | (with_reducible assumption) | assumption); have q18 : (x11_1 : Int) < ((X092_1.length : Int) : Int) := of_decide_eq_true (by first | (with_reducible assumption) | assumption); obtain ⟨go18, co18, eo18, gb18, gl18, cl18, HG18⟩ := Kd.R_form HO_109002.out (by omega); (first | cases eo18 | (injection eo18 with ea_ en_ ec_; (first | subst ea_ | (injection ea_ with ea_; subst ea_)); subst ec_; clear en_)); have GB18 := Zad.mk gb18; have GG18 := Zad.mk HG18; clear gb18 gl18 HG18; (first | simp only [Zep] at hx109_0 | skip); obtain ⟨hx18_0, hf18_0⟩ := Kd.R_celln 0 HO_109002.out (x11_1 : Int) p18 q18; replace p18 := eq_true p18; replace q18 := eq_true q18; obtain ⟨hy23_, hz23_⟩ := Kd.R_celln 0 HO_109002.out (x11_1 : Int) (of_decide_eq_true (by first | (with_reducible assumption) | assumption)) (of_decide_eq_true (by first | (with_reducible assumption) | assumption)); have HP23 := Kd.R_putg HO_109002.out (x11_1 : Int) 46) | ((with_reducible refine Zd8 (t := 5) (p := 21) rfl ?_); refine Zds (t := 5) (p := 21) (v := ?vo_w24) (w1 := (wr.setCell ⟨go18, (x11_1 : Int).toNat, none⟩ (.int .u8 46))) ?hg ?ho ?hn ?hr ?_; (case ho => rfl); (case hg => rfl); (case hn => rfl); (case hr => first | (go_simp; done) | (go_simp; rfl)); intro w24 hw; have hg : wr.grownBy w24 (some go18) := (by rw [hw]; exact HP23.2); have hp_ : Kd.R (Kd.int .u8) 5 w24 w.heap.size (fun _ => True) (.slice (some ⟨go18, 0, none⟩) X092_1.length co12) y111 := (by rw [hw, Ny111.out]; exact HP23.1); clear HP23; have n0_ := Zad.mk (hp_); have n1_ := Zad.mk (Zbh (g := g01) (o := .cells #[.int .i64 a0_0, .int .i64 a0_1, .slice A0_2 l0_2.length c0_2] 52 (0, 0)) (by (with_reducible repeat (first | refine Zaf ?_ _ | refine Zaj ?_ | refine Zag ?_ _)); exact K01.out) hg (Kd.R_ne HO_109002.out K01.out (by decide))); have n2_ := Zad.mk (Zbh (g := g02) (o := .cells #[.int .i64 0, .int .i64 0, .slice none 0 0] 52 (0, 0)) (by (with_reducible repeat (first | refine Zaf ?_ _ | refine Zaj ?_ | refine Zag ?_ _)); exact K02.out) hg (Kd.R_ne HO_109002.out K02.out (by decide))); have n3_ := Zad.mk (Zbh (g := g08) (o := .cells #[.int .i64 t103, .int .i64 t104, .slice (some ⟨go18, 0, none⟩) X092_1.length co12] 52 (0, 0)) (by (with_reducible repeat (first | refine Zaf ?_ _ | refine Zaj ?_ | refine Zag ?_ _)); exact K08.out) hg (Kd.R_ne HO_109002.out K08.out (by decide))); have n4_ := Zad.mk ((by rw [hw]; exact Zai (HB.out) GB18.out : Below w.heap.size w w24)); clear HO_109002; clear K01; clear K02; clear K08; clear HB; have HO_109002 := n0_; have K01 := n1_; have K02 := n2_; have K08 := n3_; have HB := n4_; clear hg hw hp_))
       go_roundg k1
       case measure => have := HK1.out; omega
       case rel => exact ⟨(wrap64 (x11_1 + 1)), (y111), (.slice (some ⟨go18, 0, none⟩) X092_1.length co12), (by first | rfl | (simp; done) | (simp [*]; done)), (by first | rfl | (rw [Ny111.out, List.length_set])), H', ⟨by have := HK1.out; omega⟩, ⟨by (with_reducible repeat (first | apply Kd.R_alloc | apply Kd.R_drewN | apply Kd.R_drew)); exact HO_109002.out⟩, ⟨by (with_reducible repeat (first | refine Zaf ?_ _ | refine Zaj ?_ | refine Zag ?_ _)); exact K01.out⟩, ⟨by (with_reducible repeat (first | refine Zaf ?_ _ | refine Zaj ?_ | refine Zag ?_ _)); exact K02.out⟩, ⟨by (with_reducible repeat (first | refine Zaf ?_ _ | refine Zaj ?_ | refine Zag ?_ _)); exact K08.out⟩, ⟨by with_reducible repeat first | exact HB.out | apply Zac | apply Zaa | apply Zab | refine Zai ?_ E01.out | refine Zai ?_ E02.out | refine Zai ?_ E08.out⟩⟩
      ·replace c17 := Bool.eq_false_iff.mpr c17
       subst c17
       have H1 : (Zbf.l0 k1 (t105.length : Int) (wrap64 (x11_1 + 1)) t103 t104 X092_1) = some (r1, r2, r3) := by rw [if_neg (show ¬ (false = true) by decide)] at H; exact H
       clear H
       have H := H1
       clear H1
       have H' := Zad.mk H
       clear H
       have hnb25 := N08_01.out
       have hnc25 := N01_08.out
       have hnb26 := N08_02.out
       have hnc26 := N02_08.out
       have hcz27_0 : wr.cell? ⟨g08, 0, none⟩ = some (.int .i64 t103) := (Zah K08.out 0).trans rfl
       have hcz27_1 : wr.cell? ⟨g08, 1, none⟩ = some (.int .i64 t104) := (Zah K08.out 1).trans rfl
       have hcz27_2 : wr.cell? ⟨g08, 2, none⟩ = some (.slice Ao12 X092_1.length co12) := (Zah K08.out 2).trans rfl
       have hfz27_0 := Zae K08.out 0
       have hfz27_1 := Zae K08.out 1
       have hfz27_2 := Zae K08.out 2
       skip
       have p109 : 0 ≤ (x11_1 : Int) := of_decide_eq_true (by first | (with_reducible assumption) | assumption)
       have q109 : x11_1 < (X092_1.length : Int) := of_decide_eq_true (by first | (with_reducible assumption) | assumption)
       obtain ⟨ad109, e109, hx109_0⟩ := Kd.at_int (Kd.R_reads' HO_109002.out).2.2 x11_1 p109 q109
       cases e109
       replace p109 := eq_true p109
       replace q109 := eq_true q109
       have q9_ := eq_true (show x11_1 < (t105.length : Int) from of_decide_eq_true (by first | (with_reducible assumption) | assumption))
       go_wp2_with (first | ((with_reducible refine Zas (f := 91) rfl ?_); refine Zbg (some 17) rfl rfl Tryz.func91 (by kernel_rfl) rfl #[.int .u8 (rd X092_1 x11_1)] rfl (by (try simp only [List.map_toArray, List.map_cons, List.map_nil]); first | done | rfl | (simp only [List.length_drop, List.length_take]; rfl)) ?_; (with_reducible refine (Zcb.calls (rd X092_1 x11_1) false _ A16.out).mono ?_); rintro e w' ⟨rfl, ⟨nd, rfl⟩⟩; refine ⟨_, rfl, ?_⟩))
       go_roundg k1
       case measure => have := HK1.out; omega
       case rel => exact ⟨(wrap64 (x11_1 + 1)), (X092_1), (.slice (some ad109) X092_1.length co12), (by first | rfl | (simp; done) | (simp [*]; done)), (by first | rfl | (rw [Ny111.out, List.length_set])), H', ⟨by have := HK1.out; omega⟩, ⟨by (with_reducible repeat (first | apply Kd.R_alloc | apply Kd.R_drewN | apply Kd.R_drew)); exact HO_109002.out⟩, ⟨by (with_reducible repeat (first | refine Zaf ?_ _ | refine Zaj ?_ | refine Zag ?_ _)); exact K01.out⟩, ⟨by (with_reducible repeat (first | refine Zaf ?_ _ | refine Zaj ?_ | refine Zag ?_ _)); exact K02.out⟩, ⟨by (with_reducible repeat (first | refine Zaf ?_ _ | refine Zaj ?_ | refine Zag ?_ _)); exact K08.out⟩, ⟨by with_reducible repeat first | exact HB.out | apply Zac | apply Zaa | apply Zab | refine Zai ?_ E01.out | refine Zai ?_ E02.out | refine Zai ?_ E08.out⟩⟩
     ·rw [if_neg c15] at H
      exact absurd H (by simp)
    ·rw [if_neg c14] at H
     exact absurd H (by simp)
   ·rw [if_neg c13] at H
    have c13b0 : decide (x11_1 < (t105.length : Int)) = false := decide_eq_false c13
    clear c13
    simp only [Option.some.injEq, Prod.mk.injEq] at H
    obtain ⟨rfl, rfl, rfl⟩ := H
    have hnb29 := N08_01.out
    have hnc29 := N01_08.out
    have hnb30 := N08_02.out
    have hnc30 := N02_08.out
    have hcz31_0 : wr.cell? ⟨g08, 0, none⟩ = some (.int .i64 t103) := (Zah K08.out 0).trans rfl
    have hcz31_1 : wr.cell? ⟨g08, 1, none⟩ = some (.int .i64 t104) := (Zah K08.out 1).trans rfl
    have hcz31_2 : wr.cell? ⟨g08, 2, none⟩ = some (.slice Ao12 X092_1.length co12) := (Zah K08.out 2).trans rfl
    have hfz31_0 := Zae K08.out 0
    have hfz31_1 := Zae K08.out 1
    have hfz31_2 := Zae K08.out 2
    have hnb32 := N02_01.out
    have hnc32 := N01_02.out
    have hcz33_0 : wr.cell? ⟨g02, 0, none⟩ = some (.int .i64 0) := (Zah K02.out 0).trans rfl
    have hcz33_1 : wr.cell? ⟨g02, 1, none⟩ = some (.int .i64 0) := (Zah K02.out 1).trans rfl
    have hcz33_2 : wr.cell? ⟨g02, 2, none⟩ = some (.slice none 0 0) := (Zah K02.out 2).trans rfl
    have hfz33_0 := Zae K02.out 0
    have hfz33_1 := Zae K02.out 1
    have hfz33_2 := Zae K02.out 2
    skip
    go_wp2
    refine bodyPost_ret (results_cell_row rfl _ _ g02 52 #[.int .i64 t103, .int .i64 t104, .slice Ao12 X092_1.length co12] (0, 0) _ rfl (by (with_reducible repeat (first | refine Zaf ?_ _ | refine Zaj ?_ | refine Zag ?_ _)); refine Zav (cs := #[.int .i64 t103, .int .i64 t104, .slice none 0 0]) ?_ 2 _ rfl; (with_reducible repeat (first | refine Zaf ?_ _ | refine Zaj ?_ | refine Zag ?_ _)); refine Zav (cs := #[.int .i64 t103, .int .i64 0, .slice none 0 0]) ?_ 1 _ rfl; (with_reducible repeat (first | refine Zaf ?_ _ | refine Zaj ?_ | refine Zag ?_ _)); refine Zav (cs := #[.int .i64 0, .int .i64 0, .slice none 0 0]) ?_ 0 _ rfl; (with_reducible repeat (first | refine Zaf ?_ _ | refine Zaj ?_ | refine Zag ?_ _)); exact K02.out) Tryz.underlying52 rfl (by kernel_rfl)) rfl ?_
    exact ⟨_, by first | rfl | (simp [Zap, Zao] <;> rfl) | (simp [*, Zap, Zao] <;> rfl), by (with_reducible repeat (first | apply Kd.R_alloc | apply Kd.R_drewN | apply Kd.R_drew)); exact Kd.R_mono (Kd.R_far (p := ⟨g02, 2, none⟩) (Kd.R_far (p := ⟨g02, 1, none⟩) (Kd.R_far (p := ⟨g02, 0, none⟩) (Kd.R_types HO_109002.out K02.out (by decide)) (fun _ hk => hk.2) (.int .i64 t103)) (fun _ hk => hk.2) (.int .i64 t104)) (fun _ hk => hk.2) (.slice Ao12 X092_1.length co12)) (fun _ hk => trivial), by repeat (first | (with_reducible first | exact HB.out | apply Zac | apply Zaa | apply Zab | refine Zai ?_ E01.out | refine Zai ?_ E02.out | refine Zai ?_ E08.out) | exact HB.out)⟩
def Zca.f (a0 : Int) (a1 : Int) (a2 : Int) : Option (Bool) := if a0 ≥ a1 then (some (decide (a0 ≤ a2))) else (some false)
set_option maxHeartbeats 8000000 in
set_option maxRecDepth 100000 in
theorem Zca.calls (a0 : Int) (a1 : Int) (a2 : Int) (r : Bool) (w : World) (h : Zca.f a0 a1 a2 = some r) :
  Calls Tryz.prog 129 #[.int .i64 a0, .int .i64 a1, .int .i64 a2] w fun e w' => e = .returned (.bool r) ∧ Za2 w w' := by
 have H : (if a0 ≥ a1 then (some (decide (a0 ≤ a2))) else (some false)) = some r := h
 clear h
 by_cases c4 : a0 ≥ a1
 ·rw [if_pos c4] at H
  have c4b0 : decide (a1 ≤ a0) = true := decide_eq_true c4
  clear c4
  obtain rfl := Option.some.inj H
  go_enter Tryz.func129, Tryz.ntmps129
  go_wp2
  go_ret
  exact ⟨by first | rfl | (simp; done) | (simp [*]; done), by repeat (first | exact Za2.refl _ | apply Za2.step)⟩
 ·rw [if_neg c4] at H
  have c4b0 : decide (a1 ≤ a0) = false := decide_eq_false c4
  clear c4
  obtain rfl := Option.some.inj H
  go_enter Tryz.func129, Tryz.ntmps129
  go_wp2
  go_ret
  exact ⟨by first | rfl | (simp; done) | (simp [*]; done), by repeat (first | exact Za2.refl _ | apply Za2.step)⟩
def Za1.f (a0_0 : Int) (a0_1 : Int) (l0_2 : List Int) (a1 : Int) (a2 : Int) : Option (Bool) := (Zca.f a1 0 (wrap64 (a0_0 - 1))).bind fun t102 => (if t102 = true then ((Zca.f a2 0 (wrap64 (a0_1 - 1))).bind fun t103 => (some t103)) else (some false))
set_option maxHeartbeats 8000000 in
set_option maxRecDepth 100000 in
theorem Za1.calls (a0_0 : Int) (a0_1 : Int) (A0_2 : Option Addr) (c0_2 : Nat) (l0_2 : List Int) (a1 : Int) (a2 : Int) (r : Bool) (w : World) (hr0_2 : Kd.C (Kd.int .u8) w A0_2 l0_2.length l0_2) (hc0_2 : l0_2.length ≤ c0_2) (h : Za1.f a0_0 a0_1 l0_2 a1 a2 = some r) :
  Calls Tryz.prog 187 #[.agg #[.int .i64 a0_0, .int .i64 a0_1, .slice A0_2 l0_2.length c0_2], .int .i64 a1, .int .i64 a2] w fun e w' => e = .returned (.bool r) ∧ Below w.heap.size w w' := by
 have hu52 := Tryz.underlying52
 have HR0_2 := Zad.mk hr0_2
 have HC0_2 := Zad.mk hc0_2
 clear hr0_2 hc0_2
 have HB := Zad.mk (Below.refl w.heap.size w)
 have H : ((Zca.f a1 0 (wrap64 (a0_0 - 1))).bind fun t102 => (if t102 = true then ((Zca.f a2 0 (wrap64 (a0_1 - 1))).bind fun t103 => (some t103)) else (some false))) = some r := h
 clear h
 replace H := Option.bind_eq_some_iff.mp H
 obtain ⟨t102, A40, H⟩ := H
 replace H : (if t102 = true then ((Zca.f a2 0 (wrap64 (a0_1 - 1))).bind fun t103 => (some t103)) else (some false)) = some r := H
 have A4 := Zad.mk A40
 clear A40
 by_cases c5 : t102 = true
 ·subst c5
  have H1 : ((Zca.f a2 0 (wrap64 (a0_1 - 1))).bind fun t103 => (some t103)) = some r := by rw [if_pos rfl] at H; exact H
  clear H
  have H := H1
  clear H1
  replace H := Option.bind_eq_some_iff.mp H
  obtain ⟨t103, A60, H⟩ := H
  replace H : (some t103) = some r := H
  have A6 := Zad.mk A60
  clear A60
  obtain rfl := Option.some.inj H
  go_enter Tryz.func187, Tryz.ntmps187
  go_wp2_with (first | ((with_reducible refine Zaz (N := 3) rfl ?_); refine Zay ?hg (N := 3) ?hd (cs := #[.int .i64 a0_0, .int .i64 a0_1, .slice A0_2 l0_2.length c0_2]) (t := 52) ?hr ?_; (case hd => rfl); (case hg => rfl); (case hr => first | (go_simp; done) | (go_simp; rfl)); intro g01 hg w7 hbox hb; have n0_ := Zad.mk (Zal (by with_reducible repeat first | exact HB.out | apply Zac | apply Zaa | apply Zab) hb); have n1_ := Zad.mk (hbox); have n2_ := Zad.mk ((by rw [hg]; exact (Zak (by with_reducible repeat first | exact HB.out | apply Zac | apply Zaa | apply Zab)) : w.heap.size ≤ g01)); have n3_ := n2_; clear HB; have HB := n0_; have K01 := n1_; have W01 := n2_; have E01 := n3_; clear hb hbox hg; have hcz8_0 : w7.cell? ⟨g01, 0, none⟩ = some (.int .i64 a0_0) := (Zah K01.out 0).trans rfl; have hcz8_1 : w7.cell? ⟨g01, 1, none⟩ = some (.int .i64 a0_1) := (Zah K01.out 1).trans rfl; have hcz8_2 : w7.cell? ⟨g01, 2, none⟩ = some (.slice A0_2 l0_2.length c0_2) := (Zah K01.out 2).trans rfl; have hfz8_0 := Zae K01.out 0; have hfz8_1 := Zae K01.out 1; have hfz8_2 := Zae K01.out 2) | ((with_reducible refine Zas (f := 129) rfl ?_); refine Zbg (some 11) rfl rfl Tryz.func129 (by kernel_rfl) rfl #[.int .i64 a1, .int .i64 0, .int .i64 (wrap64 (a0_0 - 1))] rfl (by (try simp only [List.map_toArray, List.map_cons, List.map_nil]); first | done | rfl | (simp only [List.length_drop, List.length_take]; rfl)) ?_; (with_reducible refine (Zca.calls a1 0 (wrap64 (a0_0 - 1)) true _ A4.out).mono ?_); rintro e w' ⟨rfl, ⟨nd, rfl⟩⟩; refine ⟨_, rfl, ?_⟩) | (go_at_call 129; (with_reducible refine (Zca.calls a2 0 (wrap64 (a0_1 - 1)) t103 _ A6.out).mono ?_); rintro e w' ⟨rfl, ⟨nd, rfl⟩⟩))
  go_ret
  exact ⟨by first | rfl | (simp [Zap, Zao] <;> rfl) | (simp [*, Zap, Zao] <;> rfl), by repeat (first | (with_reducible first | exact HB.out | apply Zac | apply Zaa | apply Zab | refine Zai ?_ E01.out) | exact HB.out)⟩
 ·replace c5 := Bool.eq_false_iff.mpr c5
  subst c5
  have H1 : (some false) = some r := by rw [if_neg (show ¬ (false = true) by decide)] at H; exact H
  clear H
  have H := H1
  clear H1
  obtain rfl := Option.some.inj H
  go_enter Tryz.func187, Tryz.ntmps187
  go_wp2_with (first | ((with_reducible refine Zaz (N := 3) rfl ?_); refine Zay ?hg (N := 3) ?hd (cs := #[.int .i64 a0_0, .int .i64 a0_1, .slice A0_2 l0_2.length c0_2]) (t := 52) ?hr ?_; (case hd => rfl); (case hg => rfl); (case hr => first | (go_simp; done) | (go_simp; rfl)); intro g01 hg w9 hbox hb; have n0_ := Zad.mk (Zal (by with_reducible repeat first | exact HB.out | apply Zac | apply Zaa | apply Zab) hb); have n1_ := Zad.mk (hbox); have n2_ := Zad.mk ((by rw [hg]; exact (Zak (by with_reducible repeat first | exact HB.out | apply Zac | apply Zaa | apply Zab)) : w.heap.size ≤ g01)); have n3_ := n2_; clear HB; have HB := n0_; have K01 := n1_; have W01 := n2_; have E01 := n3_; clear hb hbox hg; have hcz10_0 : w9.cell? ⟨g01, 0, none⟩ = some (.int .i64 a0_0) := (Zah K01.out 0).trans rfl; have hcz10_1 : w9.cell? ⟨g01, 1, none⟩ = some (.int .i64 a0_1) := (Zah K01.out 1).trans rfl; have hcz10_2 : w9.cell? ⟨g01, 2, none⟩ = some (.slice A0_2 l0_2.length c0_2) := (Zah K01.out 2).trans rfl; have hfz10_0 := Zae K01.out 0; have hfz10_1 := Zae K01.out 1; have hfz10_2 := Zae K01.out 2) | ((with_reducible refine Zas (f := 129) rfl ?_); refine Zbg (some 11) rfl rfl Tryz.func129 (by kernel_rfl) rfl #[.int .i64 a1, .int .i64 0, .int .i64 (wrap64 (a0_0 - 1))] rfl (by (try simp only [List.map_toArray, List.map_cons, List.map_nil]); first | done | rfl | (simp only [List.length_drop, List.length_take]; rfl)) ?_; (with_reducible refine (Zca.calls a1 0 (wrap64 (a0_0 - 1)) false _ A4.out).mono ?_); rintro e w' ⟨rfl, ⟨nd, rfl⟩⟩; refine ⟨_, rfl, ?_⟩))
  go_ret
  exact ⟨by first | rfl | (simp [Zap, Zao] <;> rfl) | (simp [*, Zap, Zao] <;> rfl), by repeat (first | (with_reducible first | exact HB.out | apply Zac | apply Zaa | apply Zab | refine Zai ?_ E01.out) | exact HB.out)⟩
end Go.Proofs.YtjohcjkidoalkaaGreatDoor.PA
