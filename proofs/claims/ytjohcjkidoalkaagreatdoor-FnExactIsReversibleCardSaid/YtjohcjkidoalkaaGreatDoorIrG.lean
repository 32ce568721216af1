/- Contracts of functions and plain lemmas, for the last text. -/
import Derived.Test.YtjohcjkidoalkaaGreatDoorIrF
import Derived.Deep.CutBlock
import Derived.Deep.RegionWith
import Derived.Deep.DeepMust
import Derived.Laws.DeepStrings4
import Derived.Lib.AtoiErrMem
import Derived.Laws.BitsLemmas
set_option linter.unusedVariables false
set_option linter.unusedSimpArgs false
namespace Go.Proofs.YtjohcjkidoalkaaGreatDoor.PA
open Go.RowKit Go.PW.PrintWords Go.PW.PrintLast Go.PW.PrintMore
attribute [local go_sem] Zbn Zbl Zb3 Zb2 Zbb Zba Zbm Zbk
def Zb0.f (a0_0 : Int) (a0_1 : Int) (l0_2 : List Int) : Option (Int × Int × List Int) := (Zbz.f l0_2).bind fun t103 => (some (a0_0, a0_1, t103))
def Zb0.T1 : Bool × List (List Nat × List Nat) := (true, [([], []), ([0], [0]), ([], []), ([2], [2]), ([], []), ([4], [4]), ([5], [5]), ([1, 3, 6], [1, 3, 6]), ([7, 6, 0, 1, 2, 3, 4, 5, 6, 7], [7])])
def Zb0.B1 : List Nat := [0, 1, 0, 4, 0, 16, 48, 127, 255]
theorem Zb0.tab1 : rtab .any (opsOf Tryz.f196 1) = Zb0.T1 := by kernel_rfl
theorem Zb0.bits1 : Zer Zb0.T1.2 Zb0.B1 = true := by kernel_rfl
set_option maxHeartbeats 8000000 in
set_option maxRecDepth 100000 in
theorem Zb0.calls (a0_0 : Int) (a0_1 : Int) (A0_2 : Option Addr) (c0_2 : Nat) (l0_2 : List Int) (r1 : Int) (r2 : Int) (r3 : List Int) (w : World) (hr0_2 : Kd.C (Kd.int .u8) w A0_2 l0_2.length l0_2) (hc0_2 : l0_2.length ≤ c0_2) (h : Zb0.f a0_0 a0_1 l0_2 = some (r1, r2, r3)) :
  Calls Tryz.prog 196 #[.agg #[.int .i64 a0_0, .int .i64 a0_1, .slice A0_2 l0_2.length c0_2]] w fun e w' => ∃ v2_ : Value, e = .returned (.agg #[.int .i64 r1, .int .i64 r2, v2_]) ∧ Kd.R (Kd.int .u8) 5 w' w.heap.size (fun _ => True) v2_ r3 ∧ Below w.heap.size w w' := by
 have hu93 := Tryz.underlying93
 have HR0_2 := Zad.mk hr0_2
 have HC0_2 := Zad.mk hc0_2
 clear hr0_2 hc0_2
 have HB := Zad.mk (Below.refl w.heap.size w)
 have H : ((Zbz.f l0_2).bind fun t103 => (some (a0_0, a0_1, t103))) = some (r1, r2, r3) := h
 clear h
 replace H := Option.bind_eq_some_iff.mp H
 obtain ⟨t103, A20, H⟩ := H
 replace H : (some (a0_0, a0_1, t103)) = some (r1, r2, r3) := H
 have A2 := Zad.mk A20
 clear A20
 simp only [Option.some.injEq, Prod.mk.injEq] at H
 obtain ⟨rfl, rfl, rfl⟩ := H
 go_enter Tryz.func196, Tryz.ntmps196
 try go_wp2_with (first | ((with_reducible refine Zaz (N := 1) rfl ?_); refine Zay ?hg (N := 1) ?hd (cs := #[.int .i64 a0_0, .int .i64 a0_1, .slice A0_2 l0_2.length c0_2]) (t := 93) ?hr ?_; (case hd => rfl); (case hg => rfl); (case hr => first | (go_simp; done) | (go_simp; rfl)); intro g01 hg w3 hbox hb; have n0_ := Zad.mk (Zal (by with_reducible repeat first | exact HB.out | apply Zac | apply Zaa | apply Zab) hb); have n1_ := Zad.mk (hbox); have n2_ := Zad.mk ((by rw [hg]; exact (Zak (by with_reducible repeat first | exact HB.out | apply Zac | apply Zaa | apply Zab)) : w.heap.size ≤ g01)); have n3_ := n2_; clear HB; have HB := n0_; have K01 := n1_; have W01 := n2_; have E01 := n3_; clear hb hbox hg) | ((with_reducible refine Zaz (N := 2) rfl ?_); refine Zay ?hg (N := 2) ?hd (cs := #[.int .i64 0, .int .i64 0, .slice none 0 0]) (t := 93) ?hr ?_; (case hd => rfl); (case hg => rfl); (case hr => first | (go_simp; done) | (go_simp; rfl)); intro g02 hg w4 hbox hb; have n0_ := Zad.mk (Zat (g := g01) (o := .cells #[.int .i64 a0_0, .int .i64 a0_1, .slice A0_2 l0_2.length c0_2] 93 (0, 0)) (by (with_reducible repeat (first | refine Zaf ?_ _ | refine Zaj ?_ | refine Zag ?_ _)); exact K01.out) hb); have n1_ := Zad.mk (Zal (by with_reducible repeat first | exact HB.out | apply Zac | apply Zaa | apply Zab | refine Zai ?_ E01.out) hb); have n2_ := Zad.mk (hbox); have n3_ := Zad.mk ((by rw [hg]; exact (Zak (by with_reducible repeat first | exact HB.out | apply Zac | apply Zaa | apply Zab | refine Zai ?_ E01.out)) : w.heap.size ≤ g02)); have n4_ := n3_; have n5_ := Zad.mk ((by rw [hg]; exact Nat.ne_of_lt (Zcn (g := g01) (o := .cells #[.int .i64 a0_0, .int .i64 a0_1, .slice A0_2 l0_2.length c0_2] 93 (0, 0)) (by (with_reducible repeat (first | refine Zaf ?_ _ | refine Zaj ?_ | refine Zag ?_ _)); exact K01.out)) : g01 ≠ g02)); have n6_ := Zad.mk ((by rw [hg]; exact Nat.ne_of_gt (Zcn (g := g01) (o := .cells #[.int .i64 a0_0, .int .i64 a0_1, .slice A0_2 l0_2.length c0_2] 93 (0, 0)) (by (with_reducible repeat (first | refine Zaf ?_ _ | refine Zaj ?_ | refine Zag ?_ _)); exact K01.out)) : g02 ≠ g01)); clear K01; clear HB; have K01 := n0_; have HB := n1_; have K02 := n2_; have W02 := n3_; have E02 := n4_; have N01_02 := n5_; have N02_01 := n6_; clear hb hbox hg))
 have n0_ := Zad.mk (Zaj K01.out)
 have n1_ := Zad.mk (Zaj K02.out)
 have n2_ := Zad.mk (Zab HB.out)
 clear K01
 clear K02
 clear HB
 have K01 := n0_
 have K02 := n1_
 have HB := n2_
 clear n0_ n1_ n2_
 refine Zgd (n := 9) (S := fun w' => w'.cell? ⟨g01, 0, none⟩ = some (.int .i64 a0_0) ∧ w'.cell? ⟨g01, 1, none⟩ = some (.int .i64 a0_1) ∧ w'.cell? ⟨g01, 2, none⟩ = some (.slice A0_2 l0_2.length c0_2)) (ds := []) #[false, false, false, false, false, false, false, false, false] (by kernel_rfl) rfl rfl ⟨(Zah K01.out 0).trans rfl, (Zah K01.out 1).trans rfl, (Zah K01.out 2).trans rfl⟩ (fun hHeld => ?_); refine Zdy Zb0.tab1 Zb0.bits1 (fun HT_ HW_ => ?_)
 generalize w4.drew = w5 at K01 K02 HB hHeld ⊢
 refine pure_ (i := 0) (N := some 3) (v := ?_) (a' := ?_) #[true, false, false, false, false, false, false, false, false] rfl rfl (Zb4 HT_.out (by kernel_rfl)) (fun _ _ _ h => h) (Or.inl ⟨by rfl, ?_⟩) ?_ ?_
 rotate_left
 ·intro w'
  go_simp
  with_reducible rfl
 rotate_left
 ·simp only [Act.put, List.setIfInBounds_toArray, List.set_cons_zero, List.set_cons_succ, i64_w, i32_w]
  rfl
 refine pure_ (i := 2) (N := some 5) (v := ?_) (a' := ?_) #[true, false, true, false, false, false, false, false, false] rfl rfl (Zb4 HT_.out (by kernel_rfl)) (fun _ _ _ h => h) (Or.inl ⟨by rfl, ?_⟩) ?_ ?_
 rotate_left
 ·intro w'
  go_simp
  with_reducible rfl
 rotate_left
 ·simp only [Act.put, List.setIfInBounds_toArray, List.set_cons_zero, List.set_cons_succ, i64_w, i32_w]
  rfl
 refine pure_ (i := 4) (N := some 7) (v := ?_) (a' := ?_) #[true, false, true, false, true, false, false, false, false] rfl rfl (Zb4 HT_.out (by kernel_rfl)) (fun _ _ _ h => h) (Or.inl ⟨by rfl, ?_⟩) ?_ ?_
 rotate_left
 ·intro w'
  go_simp
  with_reducible rfl
 rotate_left
 ·simp only [Act.put, List.setIfInBounds_toArray, List.set_cons_zero, List.set_cons_succ, i64_w, i32_w]
  rfl
 refine take_ (i := 1) (N := some 4) (v := ?_) (a' := ?_) #[true, true, true, false, true, false, false, false, false] rfl rfl (Zc3 HT_.out HW_.out (by kernel_rfl)) (fun _ _ _ h => h) (Or.inl ⟨by rfl, ?_⟩) hHeld ?_ ?_
 rotate_left
 ·rintro w' ⟨s0, s1, s2⟩
  go_simp
  with_reducible rfl
 rotate_left
 ·simp only [Act.put, List.setIfInBounds_toArray, List.set_cons_zero, List.set_cons_succ, i64_w, i32_w]
  rfl
 refine take_ (i := 3) (N := some 6) (v := ?_) (a' := ?_) #[true, true, true, true, true, false, false, false, false] rfl rfl (Zc3 HT_.out HW_.out (by kernel_rfl)) (fun _ _ _ h => h) (Or.inl ⟨by rfl, ?_⟩) hHeld ?_ ?_
 rotate_left
 ·rintro w' ⟨s0, s1, s2⟩
  go_simp
  with_reducible rfl
 rotate_left
 ·simp only [Act.put, List.setIfInBounds_toArray, List.set_cons_zero, List.set_cons_succ, i64_w, i32_w]
  rfl
 refine take_ (i := 5) (N := some 8) (v := ?_) (a' := ?_) #[true, true, true, true, true, true, false, false, false] rfl rfl (Zc3 HT_.out HW_.out (by kernel_rfl)) (fun _ _ _ h => h) (Or.inl ⟨by rfl, ?_⟩) hHeld ?_ ?_
 rotate_left
 ·rintro w' ⟨s0, s1, s2⟩
  go_simp
  with_reducible rfl
 rotate_left
 ·simp only [Act.put, List.setIfInBounds_toArray, List.set_cons_zero, List.set_cons_succ, i64_w, i32_w]
  rfl
 refine one_ (i := 6) (N := some 9) #[true, true, true, true, true, true, true, false, false] rfl rfl (Zd0 HT_.out (by kernel_rfl)) (by decide) (fun K hK => ?_)
 refine goes_ Tryz.func215 (by kernel_rfl) rfl #[.slice A0_2 l0_2.length c0_2] (by rfl) rfl rfl (by (try simp only [List.map_toArray, List.map_cons, List.map_nil]); first | done | rfl | (simp only [List.length_drop, List.length_take]; rfl)) ?_
 with_reducible refine (Zbz.calls _ _ l0_2 t103 _ ?side1 ?side2 A2.out).mono ?_
 (case side1 => repeat (first | exact (Kd.C_below HR0_2.out HB.out) | (with_reducible refine Kd.C_alloc ?_ _) | (with_reducible refine Kd.C_drewN ?_ _) | (with_reducible refine Kd.C_drew ?_)))
 (case side2 => exact HC0_2.out)
 rintro e w6 ⟨v104, rfl, ho0, hb⟩
 refine ⟨_, rfl, ?_⟩
 have n0_ := Zad.mk (Kd.R_lower ho0 (Zak (by with_reducible repeat first | exact HB.out | apply Zac | apply Zaa | apply Zab | refine Zai ?_ E01.out | refine Zai ?_ E02.out)))
 have n1_ := Zad.mk (Zat (g := g01) (o := .cells #[.int .i64 a0_0, .int .i64 a0_1, .slice A0_2 l0_2.length c0_2] 93 (0, 0)) (by (with_reducible repeat (first | refine Zaf ?_ _ | refine Zaj ?_ | refine Zag ?_ _)); exact K01.out) hb)
 have n2_ := Zad.mk (Zat (g := g02) (o := .cells #[.int .i64 0, .int .i64 0, .slice none 0 0] 93 (0, 0)) (by (with_reducible repeat (first | refine Zaf ?_ _ | refine Zaj ?_ | refine Zag ?_ _)); exact K02.out) hb)
 have n3_ := Zad.mk (Zal (by with_reducible repeat first | exact HB.out | apply Zac | apply Zaa | apply Zab | refine Zai ?_ E01.out | refine Zai ?_ E02.out) hb)
 clear K01
 clear K02
 clear HB
 have HO105 := n0_
 have K01 := n1_
 have K02 := n2_
 have HB := n3_
 clear n0_ n1_ n2_ n3_
 (try clear hb)
 (try clear hb2)
 (try clear hk)
 (try clear hi)
 (try clear ho0)
 obtain ⟨Ao7, co7, eo7⟩ := Kd.R_slice HO105.out
 (first | subst eo7 | (injection eo7 with f1_ f2_ f3_; have f4_ := f1_.symm; have f5_ := f3_.symm; clear f1_ f2_ f3_; subst f4_; subst f5_))
 refine hK.out _ _ ⟨(Zah K01.out 0).trans rfl, (Zah K01.out 1).trans rfl, (Zah K01.out 2).trans rfl⟩ (fun hHeld => ?_)
 clear hK K
 refine norm_ (a' := ?_) ?_ ?_
 rotate_left
 ·show Act.put _ (some 9) _ = _
  simp only [Act.put, List.setIfInBounds_toArray, List.set_cons_zero, List.set_cons_succ, i64_w, i32_w]
  rfl
 refine pure_ (i := 7) (N := some 10) (v := ?_) (a' := ?_) #[true, true, true, true, true, true, true, true, false] rfl rfl (Zb4 HT_.out (by kernel_rfl)) (fun _ _ _ h => h) (Or.inl ⟨by rfl, ?_⟩) ?_ ?_
 rotate_left
 ·intro w'
  go_simp
  with_reducible rfl
 rotate_left
 ·simp only [Act.put, List.setIfInBounds_toArray, List.set_cons_zero, List.set_cons_succ, i64_w, i32_w]
  rfl
 refine one_ (i := 8) (N := none) #[true, true, true, true, true, true, true, true, true] rfl rfl (Zd0 HT_.out (by kernel_rfl)) (by decide) (fun K hK => ?_)
 have hs8 : w6.cell? ⟨g02, 0, none⟩ = some (.int .i64 0) := (Zah K02.out 0).trans rfl
 have hfs8 := Zae K02.out 0
 have hns8_0 := N01_02.out
 have hms8_0 := N02_01.out
 have hs9 : w6.cell? ⟨g02, 1, none⟩ = some (.int .i64 0) := (Zah K02.out 1).trans rfl
 have hfs9 := Zae K02.out 1
 have hns9_0 := N01_02.out
 have hms9_0 := N02_01.out
 have hs10 : w6.cell? ⟨g02, 2, none⟩ = some (.slice none 0 0) := (Zah K02.out 2).trans rfl
 have hfs10 := Zae K02.out 2
 have hns10_0 := N01_02.out
 have hms10_0 := N02_01.out
 refine skip_ (w1 := ?_) (by rfl) rfl ?_ ?_
 rotate_left
 ·go_simp
  rfl
 refine hK.out _ _ ⟨((Za5 (p := ⟨g02, _, none⟩) N01_02.out _).trans (((Za5 (p := ⟨g02, _, none⟩) N01_02.out _).trans (((Za5 (p := ⟨g02, _, none⟩) N01_02.out _).trans (hHeld.1)))))), ((Za5 (p := ⟨g02, _, none⟩) N01_02.out _).trans (((Za5 (p := ⟨g02, _, none⟩) N01_02.out _).trans (((Za5 (p := ⟨g02, _, none⟩) N01_02.out _).trans (hHeld.2.1)))))), ((Za5 (p := ⟨g02, _, none⟩) N01_02.out _).trans (((Za5 (p := ⟨g02, _, none⟩) N01_02.out _).trans (((Za5 (p := ⟨g02, _, none⟩) N01_02.out _).trans (hHeld.2.2))))))⟩ (fun hHeld => ?_)
 clear hK K
 refine done_ (Ze5 HT_.out (by kernel_rfl)) ?_
 try go_wp2
 refine bodyPost_ret (results_cell_row rfl _ _ g02 93 #[.int .i64 a0_0, .int .i64 a0_1, .slice Ao7 t103.length co7] (0, 0) _ rfl (by (with_reducible repeat (first | refine Zaf ?_ _ | refine Zaj ?_ | refine Zag ?_ _)); refine Zav (cs := #[.int .i64 a0_0, .int .i64 a0_1, .slice none 0 0]) ?_ 2 _ rfl; (with_reducible repeat (first | refine Zaf ?_ _ | refine Zaj ?_ | refine Zag ?_ _)); refine Zav (cs := #[.int .i64 a0_0, .int .i64 0, .slice none 0 0]) ?_ 1 _ rfl; (with_reducible repeat (first | refine Zaf ?_ _ | refine Zaj ?_ | refine Zag ?_ _)); refine Zav (cs := #[.int .i64 0, .int .i64 0, .slice none 0 0]) ?_ 0 _ rfl; (with_reducible repeat (first | refine Zaf ?_ _ | refine Zaj ?_ | refine Zag ?_ _)); exact K02.out) Tryz.underlying93 rfl (by kernel_rfl)) rfl ?_
 exact ⟨_, by first | rfl | (simp [Zap, Zao] <;> rfl) | (simp [*, Zap, Zao] <;> rfl), by (with_reducible repeat (first | apply Kd.R_alloc | apply Kd.R_drewN | apply Kd.R_drew)); exact Kd.R_mono (Kd.R_far (p := ⟨g02, 2, none⟩) (Kd.R_far (p := ⟨g02, 1, none⟩) (Kd.R_far (p := ⟨g02, 0, none⟩) (Kd.R_types HO105.out K02.out (by decide)) (fun _ hk => hk.2) (.int .i64 a0_0)) (fun _ hk => hk.2) (.int .i64 a0_1)) (fun _ hk => hk.2) (.slice Ao7 t103.length co7)) (fun _ hk => trivial), by repeat (first | (with_reducible first | exact HB.out | apply Zac | apply Zaa | apply Zab | refine Zai ?_ E01.out | refine Zai ?_ E02.out) | exact HB.out)⟩
def Zax.l0 : Nat → Int → Int → Int → Int → List Int → Option (Int × Int × List Int)
 | 0, _, _, _, _, _ => none
 | k + 1, x10, x11, X090, X091, X092 => if x11 < x10 then (if 0 ≤ x11 then (if x11 < (X092.length : Int) then ((Zcz.f (rd X092 x11)).bind fun t110 => (if t110 = true then (Zax.l0 k x10 (wrap64 (x11 + 1)) X090 X091 (X092.set (x11 : Int).toNat 46)) else (Zax.l0 k x10 (wrap64 (x11 + 1)) X090 X091 X092))) else (none)) else (none)) else (some (X090, X091, X092))
def Zax.f (k : Nat) (a0_0 : Int) (a0_1 : Int) (l0_2 : List Int) : Option (Int × Int × List Int) := (Zb0.f a0_0 a0_1 l0_2).bind fun bt103 => (Zax.l0 k (bt103.2.2.length : Int) 0 bt103.1 bt103.2.1 bt103.2.2)
set_option maxHeartbeats 8000000 in
set_option maxRecDepth 100000 in
theorem Zax.calls (k : Nat) (a0_0 : Int) (a0_1 : Int) (A0_2 : Option Addr) (c0_2 : Nat) (l0_2 : List Int) (r1 : Int) (r2 : Int) (r3 : List Int) (w : World) (hr0_2 : Kd.C (Kd.int .u8) w A0_2 l0_2.length l0_2) (hc0_2 : l0_2.length ≤ c0_2) (h : Zax.f k a0_0 a0_1 l0_2 = some (r1, r2, r3)) :
  Calls Tryz.prog 168 #[.agg #[.int .i64 a0_0, .int .i64 a0_1, .slice A0_2 l0_2.length c0_2]] w fun e w' => ∃ v2_ : Value, e = .returned (.agg #[.int .i64 r1, .int .i64 r2, v2_]) ∧ Kd.R (Kd.int .u8) 5 w' w.heap.size (fun _ => True) v2_ r3 ∧ Below w.heap.size w w' := by
 have hu93 := Tryz.underlying93
 have HR0_2 := Zad.mk hr0_2
 have HC0_2 := Zad.mk hc0_2
 clear hr0_2 hc0_2
 have HB := Zad.mk (Below.refl w.heap.size w)
 have H : ((Zb0.f a0_0 a0_1 l0_2).bind fun bt103 => (Zax.l0 k (bt103.2.2.length : Int) 0 bt103.1 bt103.2.1 bt103.2.2)) = some (r1, r2, r3) := h
 clear h
 replace H := Option.bind_eq_some_iff.mp H
 obtain ⟨⟨t103, t104, t105⟩, A20, H⟩ := H
 replace H : (Zax.l0 k (t105.length : Int) 0 t103 t104 t105) = some (r1, r2, r3) := H
 have A2 := Zad.mk A20
 clear A20
 have H' := Zad.mk H
 clear H
 go_enter Tryz.func168, Tryz.ntmps168
 go_wp2_with (first | ((with_reducible refine Zaz (N := 1) rfl ?_); refine Zay ?hg (N := 1) ?hd (cs := #[.int .i64 a0_0, .int .i64 a0_1, .slice A0_2 l0_2.length c0_2]) (t := 93) ?hr ?_; (case hd => rfl); (case hg => rfl); (case hr => first | (go_simp; done) | (go_simp; rfl)); intro g01 hg w3 hbox hb; have n0_ := Zad.mk (Zal (by with_reducible repeat first | exact HB.out | apply Zac | apply Zaa | apply Zab) hb); have n1_ := Zad.mk (hbox); have n2_ := Zad.mk ((by rw [hg]; exact (Zak (by with_reducible repeat first | exact HB.out | apply Zac | apply Zaa | apply Zab)) : w.heap.size ≤ g01)); have n3_ := n2_; clear HB; have HB := n0_; have K01 := n1_; have W01 := n2_; have E01 := n3_; clear hb hbox hg) | ((with_reducible refine Zaz (N := 2) rfl ?_); refine Zay ?hg (N := 2) ?hd (cs := #[.int .i64 0, .int .i64 0, .slice none 0 0]) (t := 93) ?hr ?_; (case hd => rfl); (case hg => rfl); (case hr => first | (go_simp; done) | (go_simp; rfl)); intro g02 hg w4 hbox hb; have n0_ := Zad.mk (Zat (g := g01) (o := .cells #[.int .i64 a0_0, .int .i64 a0_1, .slice A0_2 l0_2.length c0_2] 93 (0, 0)) (by (with_reducible repeat (first | refine Zaf ?_ _ | refine Zaj ?_ | refine Zag ?_ _)); exact K01.out) hb); have n1_ := Zad.mk (Zal (by with_reducible repeat first | exact HB.out | apply Zac | apply Zaa | apply Zab | refine Zai ?_ E01.out) hb); have n2_ := Zad.mk (hbox); have n3_ := Zad.mk ((by rw [hg]; exact (Zak (by with_reducible repeat first | exact HB.out | apply Zac | apply Zaa | apply Zab | refine Zai ?_ E01.out)) : w.heap.size ≤ g02)); have n4_ := n3_; have n5_ := Zad.mk ((by rw [hg]; exact Nat.ne_of_lt (Zcn (g := g01) (o := .cells #[.int .i64 a0_0, .int .i64 a0_1, .slice A0_2 l0_2.length c0_2] 93 (0, 0)) (by (with_reducible repeat (first | refine Zaf ?_ _ | refine Zaj ?_ | refine Zag ?_ _)); exact K01.out)) : g01 ≠ g02)); have n6_ := Zad.mk ((by rw [hg]; exact Nat.ne_of_gt (Zcn (g := g01) (o := .cells #[.int .i64 a0_0, .int .i64 a0_1, .slice A0_2 l0_2.length c0_2] 93 (0, 0)) (by (with_reducible repeat (first | refine Zaf ?_ _ | refine Zaj ?_ | refine Zag ?_ _)); exact K01.out)) : g02 ≠ g01)); clear K01; clear HB; have K01 := n0_; have HB := n1_; have K02 := n2_; have W02 := n3_; have E02 := n4_; have N01_02 := n5_; have N02_01 := n6_; clear hb hbox hg; have hnb5 := N01_02.out; have hnc5 := N02_01.out; have hcz6_0 : w4.cell? ⟨g01, 0, none⟩ = some (.int .i64 a0_0) := (Zah K01.out 0).trans rfl; have hcz6_1 : w4.cell? ⟨g01, 1, none⟩ = some (.int .i64 a0_1) := (Zah K01.out 1).trans rfl; have hcz6_2 : w4.cell? ⟨g01, 2, none⟩ = some (.slice A0_2 l0_2.length c0_2) := (Zah K01.out 2).trans rfl; have hfz6_0 := Zae K01.out 0; have hfz6_1 := Zae K01.out 1; have hfz6_2 := Zae K01.out 2) | ((with_reducible refine Zas (f := 196) rfl ?_); refine Zbg (some 7) rfl rfl Tryz.func196 (by kernel_rfl) rfl #[.agg #[.int .i64 a0_0, .int .i64 a0_1, .slice A0_2 l0_2.length c0_2]] rfl (by (try simp only [List.map_toArray, List.map_cons, List.map_nil]); first | done | rfl | (simp only [List.length_drop, List.length_take]; rfl)) ?_; (with_reducible refine (Zb0.calls a0_0 a0_1 _ _ l0_2 t103 t104 t105 _ ?side1 ?side2 A2.out).mono ?_); (case side1 => repeat (first | exact (Kd.C_below HR0_2.out HB.out) | (with_reducible refine Kd.C_alloc ?_ _) | (with_reducible refine Kd.C_drewN ?_ _) | (with_reducible refine Kd.C_drew ?_))); (case side2 => exact HC0_2.out); rintro e w7 ⟨v106, rfl, ho0, hb⟩; refine ⟨_, rfl, ?_⟩; have n0_ := Zad.mk (Kd.R_lower ho0 (Zak (by with_reducible repeat first | exact HB.out | apply Zac | apply Zaa | apply Zab | refine Zai ?_ E01.out | refine Zai ?_ E02.out))); have n1_ := Zad.mk (Zat (g := g01) (o := .cells #[.int .i64 a0_0, .int .i64 a0_1, .slice A0_2 l0_2.length c0_2] 93 (0, 0)) (by (with_reducible repeat (first | refine Zaf ?_ _ | refine Zaj ?_ | refine Zag ?_ _)); exact K01.out) hb); have n2_ := Zad.mk (Zat (g := g02) (o := .cells #[.int .i64 0, .int .i64 0, .slice none 0 0] 93 (0, 0)) (by (with_reducible repeat (first | refine Zaf ?_ _ | refine Zaj ?_ | refine Zag ?_ _)); exact K02.out) hb); have n3_ := Zad.mk (Zal (by with_reducible repeat first | exact HB.out | apply Zac | apply Zaa | apply Zab | refine Zai ?_ E01.out | refine Zai ?_ E02.out) hb); clear K01; clear K02; clear HB; have HO107 := n0_; have K01 := n1_; have K02 := n2_; have HB := n3_) | ((with_reducible refine Zaz (N := 3) rfl ?_); refine Zay ?hg (N := 3) ?hd (cs := #[.int .i64 0, .int .i64 0, .slice none 0 0]) (t := 93) ?hr ?_; (case hd => rfl); (case hg => rfl); (case hr => first | (go_simp; done) | (go_simp; rfl)); intro g08 hg w8 hbox hb; have n0_ := Zad.mk (Kd.R_below (by (with_reducible repeat (first | apply Kd.R_alloc | apply Kd.R_drewN | apply Kd.R_drew)); exact HO107.out) hb); have n1_ := Zad.mk (Zat (g := g01) (o := .cells #[.int .i64 a0_0, .int .i64 a0_1, .slice A0_2 l0_2.length c0_2] 93 (0, 0)) (by (with_reducible repeat (first | refine Zaf ?_ _ | refine Zaj ?_ | refine Zag ?_ _)); exact K01.out) hb); have n2_ := Zad.mk (Zat (g := g02) (o := .cells #[.int .i64 0, .int .i64 0, .slice none 0 0] 93 (0, 0)) (by (with_reducible repeat (first | refine Zaf ?_ _ | refine Zaj ?_ | refine Zag ?_ _)); exact K02.out) hb); have n3_ := Zad.mk (Zal (by with_reducible repeat first | exact HB.out | apply Zac | apply Zaa | apply Zab | refine Zai ?_ E01.out | refine Zai ?_ E02.out) hb); have n4_ := Zad.mk (hbox); have n5_ := Zad.mk ((by rw [hg]; exact (Zak (by with_reducible repeat first | exact HB.out | apply Zac | apply Zaa | apply Zab | refine Zai ?_ E01.out | refine Zai ?_ E02.out)) : w.heap.size ≤ g08)); have n6_ := Zad.mk ((by rw [hg]; exact (Zak (by with_reducible repeat first | exact HB.out | apply Zac | apply Zaa | apply Zab | refine Zai ?_ E01.out | refine Zai ?_ E02.out)) : w.heap.size ≤ g08)); have n7_ := Zad.mk ((by rw [hg]; exact Nat.ne_of_lt (Zcn (g := g01) (o := .cells #[.int .i64 a0_0, .int .i64 a0_1, .slice A0_2 l0_2.length c0_2] 93 (0, 0)) (by (with_reducible repeat (first | refine Zaf ?_ _ | refine Zaj ?_ | refine Zag ?_ _)); exact K01.out)) : g01 ≠ g08)); have n8_ := Zad.mk ((by rw [hg]; exact Nat.ne_of_gt (Zcn (g := g01) (o := .cells #[.int .i64 a0_0, .int .i64 a0_1, .slice A0_2 l0_2.length c0_2] 93 (0, 0)) (by (with_reducible repeat (first | refine Zaf ?_ _ | refine Zaj ?_ | refine Zag ?_ _)); exact K01.out)) : g08 ≠ g01)); have n9_ := Zad.mk ((by rw [hg]; exact Nat.ne_of_lt (Zcn (g := g02) (o := .cells #[.int .i64 0, .int .i64 0, .slice none 0 0] 93 (0, 0)) (by (with_reducible repeat (first | refine Zaf ?_ _ | refine Zaj ?_ | refine Zag ?_ _)); exact K02.out)) : g02 ≠ g08)); have n10_ := Zad.mk ((by rw [hg]; exact Nat.ne_of_gt (Zcn (g := g02) (o := .cells #[.int .i64 0, .int .i64 0, .slice none 0 0] 93 (0, 0)) (by (with_reducible repeat (first | refine Zaf ?_ _ | refine Zaj ?_ | refine Zag ?_ _)); exact K02.out)) : g08 ≠ g02)); clear HO107; clear K01; clear K02; clear HB; have HO107 := n0_; have K01 := n1_; have K02 := n2_; have HB := n3_; have K08 := n4_; have W08 := n5_; have E08 := n6_; have N01_08 := n7_; have N08_01 := n8_; have N02_08 := n9_; have N08_02 := n10_; clear hb hbox hg; have hnb9 := N08_01.out; have hnc9 := N01_08.out; have hnb10 := N08_02.out; have hnc10 := N02_08.out; have hcz11_0 : w8.cell? ⟨g08, 0, none⟩ = some (.int .i64 0) := (Zah K08.out 0).trans rfl; have hcz11_1 : w8.cell? ⟨g08, 1, none⟩ = some (.int .i64 0) := (Zah K08.out 1).trans rfl; have hcz11_2 : w8.cell? ⟨g08, 2, none⟩ = some (.slice none 0 0) := (Zah K08.out 2).trans rfl; have hfz11_0 := Zae K08.out 0; have hfz11_1 := Zae K08.out 1; have hfz11_2 := Zae K08.out 2; obtain ⟨Ao12, co12, eo12⟩ := Kd.R_slice HO107.out; subst eo12))
 go_loopg [11] k (fun kq v11 w' => ∃ (x11_1 : Int) (X092_1 : List Int) (u109002 : Value), v11 = .int .i64 x11_1 ∧ u109002 = .slice Ao12 X092_1.length co12 ∧ Zad (Zax.l0 kq (t105.length : Int) x11_1 t103 t104 X092_1 = some (r1, r2, r3)) ∧ Zad (kq ≤ k) ∧ Zad (Kd.R (Kd.int .u8) 5 w' w.heap.size (fun _ => True) u109002 X092_1) ∧ Zad (w'.heap[g01]? = some (.cells #[.int .i64 a0_0, .int .i64 a0_1, (.slice A0_2 l0_2.length c0_2)] 93 (0, 0))) ∧ Zad (w'.heap[g02]? = some (.cells #[.int .i64 0, .int .i64 0, (.slice none 0 0)] 93 (0, 0))) ∧ Zad (w'.heap[g08]? = some (.cells #[.int .i64 t103, .int .i64 t104, u109002] 93 (0, 0))) ∧ Zad (Below w.heap.size w w'))
 case atStart => exact ⟨(0), (t105), (.slice Ao12 t105.length co12), (by first | rfl | (simp; done) | (simp [*]; done)), rfl, H', ⟨Nat.le_refl _⟩, ⟨by (with_reducible repeat (first | apply Kd.R_alloc | apply Kd.R_drewN | apply Kd.R_drew)); exact Kd.R_mono (Kd.R_far (p := ⟨g08, 2, none⟩) (Kd.R_far (p := ⟨g08, 1, none⟩) (Kd.R_far (p := ⟨g08, 0, none⟩) (Kd.R_types HO107.out K08.out (by decide)) (fun _ hk => hk.2) (.int .i64 t103)) (fun _ hk => hk.2) (.int .i64 t104)) (fun _ hk => hk.2) (.slice Ao12 t105.length co12)) (fun _ hk => trivial)⟩, ⟨by (with_reducible repeat (first | refine Zaf ?_ _ | refine Zaj ?_ | refine Zag ?_ _)); refine Zb6 ?_ N01_08.out _; (with_reducible repeat (first | refine Zaf ?_ _ | refine Zaj ?_ | refine Zag ?_ _)); refine Zb6 ?_ N01_08.out _; (with_reducible repeat (first | refine Zaf ?_ _ | refine Zaj ?_ | refine Zag ?_ _)); refine Zb6 ?_ N01_08.out _; (with_reducible repeat (first | refine Zaf ?_ _ | refine Zaj ?_ | refine Zag ?_ _)); exact K01.out⟩, ⟨by (with_reducible repeat (first | refine Zaf ?_ _ | refine Zaj ?_ | refine Zag ?_ _)); refine Zb6 ?_ N02_08.out _; (with_reducible repeat (first | refine Zaf ?_ _ | refine Zaj ?_ | refine Zag ?_ _)); refine Zb6 ?_ N02_08.out _; (with_reducible repeat (first | refine Zaf ?_ _ | refine Zaj ?_ | refine Zag ?_ _)); refine Zb6 ?_ N02_08.out _; (with_reducible repeat (first | refine Zaf ?_ _ | refine Zaj ?_ | refine Zag ?_ _)); exact K02.out⟩, ⟨by (with_reducible repeat (first | refine Zaf ?_ _ | refine Zaj ?_ | refine Zag ?_ _)); refine Zav (cs := #[.int .i64 t103, .int .i64 t104, .slice none 0 0]) ?_ 2 _ rfl; (with_reducible repeat (first | refine Zaf ?_ _ | refine Zaj ?_ | refine Zag ?_ _)); refine Zav (cs := #[.int .i64 t103, .int .i64 0, .slice none 0 0]) ?_ 1 _ rfl; (with_reducible repeat (first | refine Zaf ?_ _ | refine Zaj ?_ | refine Zag ?_ _)); refine Zav (cs := #[.int .i64 0, .int .i64 0, .slice none 0 0]) ?_ 0 _ rfl; (with_reducible repeat (first | refine Zaf ?_ _ | refine Zaj ?_ | refine Zag ?_ _)); exact K08.out⟩, ⟨by with_reducible repeat first | exact HB.out | apply Zac | apply Zaa | apply Zab | refine Zai ?_ E01.out | refine Zai ?_ E02.out | refine Zai ?_ E08.out⟩⟩
 case round =>
  clear H'
  obtain ⟨x11_1, X092_1, u109002, rfl, rfl, HA, HK1, HO_109002, K01, K02, K08, HB⟩ := hrel
  cases gk with
  | zero => exact absurd HA.out (by simp [Zax.l0])
  | succ k1 =>
   have H := HA.out
   clear HA
   simp only [Zax.l0] at H
   by_cases c13 : x11_1 < (t105.length : Int)
   ·rw [if_pos c13] at H
    have c13b0 : decide (x11_1 < (t105.length : Int)) = true := decide_eq_true c13
    clear c13
    by_cases c14 : 0 ≤ x11_1
    ·rw [if_pos c14] at H
     have c14b0 : decide (0 ≤ x11_1) = true := decide_eq_true c14
     clear c14
     by_cases c15 : x11_1 < (X092_1.length : Int)
     ·rw [if_pos c15] at H
      have c15b0 : decide (x11_1 < (X092_1.length : Int)) = true := decide_eq_true c15
      clear c15
      replace H := Option.bind_eq_some_iff.mp H
      obtain ⟨t110, A160, H⟩ := H
      replace H : (if t110 = true then (Zax.l0 k1 (t105.length : Int) (wrap64 (x11_1 + 1)) t103 t104 (X092_1.set (x11_1 : Int).toNat 46)) else (Zax.l0 k1 (t105.length : Int) (wrap64 (x11_1 + 1)) t103 t104 X092_1)) = some (r1, r2, r3) := H
      have A16 := Zad.mk A160
      clear A160
      by_cases c17 : t110 = true
      ·subst c17
       have H1 : (Zax.l0 k1 (t105.length : Int) (wrap64 (x11_1 + 1)) t103 t104 (X092_1.set (x11_1 : Int).toNat 46)) = some (r1, r2, r3) := by rw [if_pos rfl] at H; exact H
       clear H
       have H := H1
       clear H1
       obtain ⟨y111, hy111⟩ : ∃ y_ : List Int, y_ = (X092_1.set (x11_1 : Int).toNat 46) := ⟨_, rfl⟩
       replace H : (Zax.l0 k1 (t105.length : Int) (wrap64 (x11_1 + 1)) t103 t104 y111) = some (r1, r2, r3) := by first | (rw [hy111]; with_reducible exact H) | (have H2_ := (Option.bind_some _ _).symm.trans H; rw [hy111]; with_reducible exact H2_) | (have H2_ := (Option.bind_some _ _).symm.trans H; with_reducible exact H2_) | with_reducible exact H | (rw [hy111]; exact H) | exact H
       have Ny111 := Zad.mk hy111
       clear hy111
       have H' := Zad.mk H
       clear H
       have hnb19 := N08_01.out
       have hnc19 := N01_08.out
       have hnb20 := N08_02.out
       have hnc20 := N02_08.out
       have hcz21_0 : wr.cell? ⟨g08, 0, none⟩ = some (.int .i64 t103) := (Zah K08.out 0).trans rfl
       have hcz21_1 : wr.cell? ⟨g08, 1, none⟩ = some (.int .i64 t104) := (Zah K08.out 1).trans rfl
       have hcz21_2 : wr.cell? ⟨g08, 2, none⟩ = some (.slice Ao12 X092_1.length co12) := (Zah K08.out 2).trans rfl
       have hfz21_0 := Zae K08.out 0
       have hfz21_1 := Zae K08.out 1
       have hfz21_2 := Zae K08.out 2
       skip
       have p109 : 0 ≤ (x11_1 : Int) := of_decide_eq_true (by first | (with_reducible assumption) | assumption)
       have q109 : x11_1 < (X092_1.length : Int) := of_decide_eq_true (by first | (with_reducible assumption) | assumption)
       obtain ⟨ad109, e109, hx109_0⟩ := Kd.at_int (Kd.R_reads' HO_109002.out).2.2 x11_1 p109 q109
       cases e109
       replace p109 := eq_true p109
       replace q109 := eq_true q109
       have q9_ := eq_true (show x11_1 < (t105.length : Int) from of_decide_eq_true (by first | (with_reducible assumption) | assumption))
       go_wp2_with (first | ((with_reducible refine Zas (f := 134) rfl ?_); refine Zbg (some 17) rfl rfl Tryz.func134 (by kernel_rfl) rfl #[.int .u8 (rd X092_1 x11_1)] rfl (by (try simp only [List.map_toArray, List.map_cons, List.map_nil]); first | done | rfl | (simp only [List.length_drop, List.length_take]; rfl)) ?_; (with_reducible refine (Zcz.calls (rd X092_1 x11_1) true _ A16.out).mono ?_); rintro e w' ⟨rfl, ⟨nd, rfl⟩⟩; refine ⟨_, rfl, ?_⟩; (try (rw [Zem wr]; generalize hq_ : World.drewN wr _ = wr; have n0_ : Zad (Kd.R (Kd.int .u8) 5 wr w.heap.size (fun _ => True) (.slice (some ad109) X092_1.length co12) X092_1) := ⟨by rw [← hq_]; exact (by (with_reducible repeat (first | apply Kd.R_alloc | apply Kd.R_drewN | apply Kd.R_drew)); exact HO_109002.out)⟩; have n1_ : Zad (wr.heap[g01]? = some (.cells #[.int .i64 a0_0, .int .i64 a0_1, .slice A0_2 l0_2.length c0_2] 93 (0, 0))) := ⟨by rw [← hq_]; exact (by (with_reducible repeat (first | refine Zaf ?_ _ | refine Zaj ?_ | refine Zag ?_ _)); exact K01.out)⟩; have n2_ : Zad (wr.heap[g02]? = some (.cells #[.int .i64 0, .int .i64 0, .slice none 0 0] 93 (0, 0))) := ⟨by rw [← hq_]; exact (by (with_reducible repeat (first | refine Zaf ?_ _ | refine Zaj ?_ | refine Zag ?_ _)); exact K02.out)⟩; have n3_ : Zad (wr.heap[g08]? = some (.cells #[.int .i64 t103, .int .i64 t104, .slice (some ad109) X092_1.length co12] 93 (0, 0))) := ⟨by rw [← hq_]; exact (by (with_reducible repeat (first | refine Zaf ?_ _ | refine Zaj ?_ | refine Zag ?_ _)); exact K08.out)⟩; have n4_ : Zad (Below w.heap.size w wr) := ⟨by rw [← hq_]; exact (by with_reducible repeat first | exact HB.out | apply Zac | apply Zaa | apply Zab | refine Zai ?_ E01.out | refine Zai ?_ E02.out | refine Zai ?_ E08.out)⟩; clear HO_109002 K01 K02 K08 HB hq_; have HO_109002 := n0_; have K01 := n1_; have K02 := n2_; have K08 := n3_; have HB := n4_)); have hzz2 : wr.cell? ⟨g08, 2, none⟩ = some (.slice (some ad109) X092_1.length co12) := (Zah K08.out 2).trans rfl; have p18 : 0 ≤ (x11_1 : Int) := of_decide_eq_true (by first | (with_reducible assumption) | assumption); have q18 : (x11_1 : Int) < ((X092_1.length : Int) : Int) := of_decide_eq_true (by first | (with_reducible assumption) | assumption); obtain ⟨go18, co18, eo18, gb18, gl18, cl18, HG18⟩ := Kd.R_form HO_109002.out (by omega); (first | cases eo18 | (injection eo18 with ea_ en_ ec_; (first | subst ea_ | (injection ea_ with ea_; subst ea_)); subst ec_; clear en_)); have GB18 := Zad.mk gb18; have GG18 := Zad.mk HG18; clear gb18 gl18 HG18; (first | simp only [Zep] at hx109_0 | skip); obtain ⟨hx18_0, hf18_0⟩ := Kd.R_celln 0 HO_109002.out (x11_1 : Int) p18 q18; replace p18 := eq_true p18; replace q18 := eq_true q18; obtain ⟨hy23_, hz23_⟩ := Kd.R_celln 0 HO_109002.out (x11_1 : Int) (of_decide_eq_true (by first | (with_reducible assumption) | assumption)) (of_decide_eq_true (by first | (with_reducible assumption) | assumption)); have HP23 := Kd.R_putg HO_109002.out (x11_1 : Int) 46) | ((with_reducible refine Zd8 (t := 5) (p := 21) rfl ?_); refine Zds (t := 5) (p := 21) (v := ?vo_w24) (w1 := (wr.setCell ⟨go18, (x11_1 : Int).toNat, none⟩ (.int .u8 46))) ?hg ?ho ?hn ?hr ?_; (case ho => rfl); (case hg => rfl); (case hn => rfl); (case hr => first | (go_simp; done) | (go_simp; rfl)); intro w24 hw; have hg : wr.grownBy w24 (some go18) := (by rw [hw]; exact HP23.2); have hp_ : Kd.R (Kd.int .u8) 5 w24 w.heap.size (fun _ => True) (.slice (some ⟨go18, 0, none⟩) X092_1.length co12) y111 := (by rw [hw, Ny111.out]; exact HP23.1); clear HP23; have n0_ := Zad.mk (hp_); have n1_ := Zad.mk (Zbh (g := g01) (o := .cells #[.int .i64 a0_0, .int .i64 a0_1, .slice A0_2 l0_2.length c0_2] 93 (0, 0)) (by (with_reducible repeat (first | refine Zaf ?_ _ | refine Zaj ?_ | refine Zag ?_ _)); exact K01.out) hg (Kd.R_ne HO_109002.out K01.out (by decide))); have n2_ := Zad.mk (Zbh (g := g02) (o := .cells #[.int .i64 0, .int .i64 0, .slice none 0 0] 93 (0, 0)) (by (with_reducible repeat (first | refine Zaf ?_ _ | refine Zaj ?_ | refine Zag ?_ _)); exact K02.out) hg (Kd.R_ne HO_109002.out K02.out (by decide))); have n3_ := Zad.mk (Zbh (g := g08) (o := .cells #[.int .i64 t103, .int .i64 t104, .slice (some ⟨go18, 0, none⟩) X092_1.length co12] 93 (0, 0)) (by (with_reducible repeat (first | refine Zaf ?_ _ | refine Zaj ?_ | refine Zag ?_ _)); exact K08.out) hg (Kd.R_ne HO_109002.out K08.out (by decide))); have n4_ := Zad.mk ((by rw [hw]; exact Zai (HB.out) GB18.out : Below w.heap.size w w24)); clear HO_109002; clear K01; clear K02; clear K08; clear HB; have HO_109002 := n0_; have K01 := n1_; have K02 := n2_; have K08 := n3_; have HB := n4_; clear hg hw hp_))
       go_roundg k1
       case measure => have := HK1.out; omega
       case rel => exact ⟨(wrap64 (x11_1 + 1)), (y111), (.slice (some ⟨go18, 0, none⟩) X092_1.length co12), (by first | rfl | (simp; done) | (simp [*]; done)), (by first | rfl | (rw [Ny111.out, List.length_set])), H', ⟨by have := HK1.out; omega⟩, ⟨by (with_reducible repeat (first | apply Kd.R_alloc | apply Kd.R_drewN | apply Kd.R_drew)); exact HO_109002.out⟩, ⟨by (with_reducible repeat (first | refine Zaf ?_ _ | refine Zaj ?_ | refine Zag ?_ _)); exact K01.out⟩, ⟨by (with_reducible repeat (first | refine Zaf ?_ _ | refine Zaj ?_ | refine Zag ?_ _)); exact K02.out⟩, ⟨by (with_reducible repeat (first | refine Zaf ?_ _ | refine Zaj ?_ | refine Zag ?_ _)); exact K08.out⟩, ⟨by with_reducible repeat first | exact HB.out | apply Zac | apply Zaa | apply Zab | refine Zai ?_ E01.out | refine Zai ?_ E02.out | refine Zai ?_ E08.out⟩⟩
      ·replace c17 := Bool.eq_false_iff.mpr c17
       subst c17
       have H1 : (Zax.l0 k1 (t105.length : Int) (wrap64 (x11_1 + 1)) t103 t104 X092_1) = some (r1, r2, r3) := by rw [if_neg (show ¬ (false = true) by decide)] at H; exact H
       clear H
       have H := H1
       clear H1
       have H' := Zad.mk H
       clear H
       have hnb25 := N08_01.out
       have hnc25 := N01_08.out
       have hnb26 := N08_02.out
       have hnc26 := N02_08.out
       have hcz27_0 : wr.cell? ⟨g08, 0, none⟩ = some (.int .i64 t103) := (Zah K08.out 0).trans rfl
       have hcz27_1 : wr.cell? ⟨g08, 1, none⟩ = some (.int .i64 t104) := (Zah K08.out 1).trans rfl
       have hcz27_2 : wr.cell? ⟨g08, 2, none⟩ = some (.slice Ao12 X092_1.length co12) := (Zah K08.out 2).trans rfl
       have hfz27_0 := Zae K08.out 0
       have hfz27_1 := Zae K08.out 1
       have hfz27_2 := Zae K08.out 2
       skip
       have p109 : 0 ≤ (x11_1 : Int) := of_decide_eq_true (by first | (with_reducible assumption) | assumption)
       have q109 : x11_1 < (X092_1.length : Int) := of_decide_eq_true (by first | (with_reducible assumption) | assumption)
       obtain ⟨ad109, e109, hx109_0⟩ := Kd.at_int (Kd.R_reads' HO_109002.out).2.2 x11_1 p109 q109
       cases e109
       replace p109 := eq_true p109
       replace q109 := eq_true q109
       have q9_ := eq_true (show x11_1 < (t105.length : Int) from of_decide_eq_true (by first | (with_reducible assumption) | assumption))
       go_wp2_with (first | ((with_reducible refine Zas (f := 134) rfl ?_); refine Zbg (some 17) rfl rfl Tryz.func134 (by kernel_rfl) rfl #[.int .u8 (rd X092_1 x11_1)] rfl (by (try simp only [List.map_toArray, List.map_cons, List.map_nil]); first | done | rfl | (simp only [List.length_drop, List.length_take]; rfl)) ?_; (with_reducible refine (Zcz.calls (rd X092_1 x11_1) false _ A16.out).mono ?_); rintro e w' ⟨rfl, ⟨nd, rfl⟩⟩; refine ⟨_, rfl, ?_⟩))
       go_roundg k1
       case measure => have := HK1.out; omega
       case rel => exact ⟨(wrap64 (x11_1 + 1)), (X092_1), (.slice (some ad109) X092_1.length co12), (by first | rfl | (simp; done) | (simp [*]; done)), (by first | rfl | (rw [Ny111.out, List.length_set])), H', ⟨by have := HK1.out; omega⟩, ⟨by (with_reducible repeat (first | apply Kd.R_alloc | apply Kd.R_drewN | apply Kd.R_drew)); exact HO_109002.out⟩, ⟨by (with_reducible repeat (first | refine Zaf ?_ _ | refine Zaj ?_ | refine Zag ?_ _)); exact K01.out⟩, ⟨by (with_reducible repeat (first | refine Zaf ?_ _ | refine Zaj ?_ | refine Zag ?_ _)); exact K02.out⟩, ⟨by (with_reducible repeat (first | refine Zaf ?_ _ | refine Zaj ?_ | refine Zag ?_ _)); exact K08.out⟩, ⟨by with_reducible repeat first | exact HB.out | apply Zac | apply Zaa | apply Zab | refine Zai ?_ E01.out | refine Zai ?_ E02.out | refine Zai ?_ E08.out⟩⟩
     ·rw [if_neg c15] at H
      exact absurd H (by simp)
    ·rw [if_neg c14] at H
     exact absurd H (by simp)
   ·rw [if_neg c13] at H
    have c13b0 : decide (x11_1 < (t105.length : Int)) = false := decide_eq_false c13
    clear c13
    simp only [Option.some.injEq, Prod.mk.injEq] at H
    obtain ⟨rfl, rfl, rfl⟩ := H
    have hnb29 := N08_01.out
    have hnc29 := N01_08.out
    have hnb30 := N08_02.out
    have hnc30 := N02_08.out
    have hcz31_0 : wr.cell? ⟨g08, 0, none⟩ = some (.int .i64 t103) := (Zah K08.out 0).trans rfl
    have hcz31_1 : wr.cell? ⟨g08, 1, none⟩ = some (.int .i64 t104) := (Zah K08.out 1).trans rfl
    have hcz31_2 : wr.cell? ⟨g08, 2, none⟩ = some (.slice Ao12 X092_1.length co12) := (Zah K08.out 2).trans rfl
    have hfz31_0 := Zae K08.out 0
    have hfz31_1 := Zae K08.out 1
    have hfz31_2 := Zae K08.out 2
    have hnb32 := N02_01.out
    have hnc32 := N01_02.out
    have hcz33_0 : wr.cell? ⟨g02, 0, none⟩ = some (.int .i64 0) := (Zah K02.out 0).trans rfl
    have hcz33_1 : wr.cell? ⟨g02, 1, none⟩ = some (.int .i64 0) := (Zah K02.out 1).trans rfl
    have hcz33_2 : wr.cell? ⟨g02, 2, none⟩ = some (.slice none 0 0) := (Zah K02.out 2).trans rfl
    have hfz33_0 := Zae K02.out 0
    have hfz33_1 := Zae K02.out 1
    have hfz33_2 := Zae K02.out 2
    skip
    go_wp2
    refine bodyPost_ret (results_cell_row rfl _ _ g02 93 #[.int .i64 t103, .int .i64 t104, .slice Ao12 X092_1.length co12] (0, 0) _ rfl (by (with_reducible repeat (first | refine Zaf ?_ _ | refine Zaj ?_ | refine Zag ?_ _)); refine Zav (cs := #[.int .i64 t103, .int .i64 t104, .slice none 0 0]) ?_ 2 _ rfl; (with_reducible repeat (first | refine Zaf ?_ _ | refine Zaj ?_ | refine Zag ?_ _)); refine Zav (cs := #[.int .i64 t103, .int .i64 0, .slice none 0 0]) ?_ 1 _ rfl; (with_reducible repeat (first | refine Zaf ?_ _ | refine Zaj ?_ | refine Zag ?_ _)); refine Zav (cs := #[.int .i64 0, .int .i64 0, .slice none 0 0]) ?_ 0 _ rfl; (with_reducible repeat (first | refine Zaf ?_ _ | refine Zaj ?_ | refine Zag ?_ _)); exact K02.out) Tryz.underlying93 rfl (by kernel_rfl)) rfl ?_
    exact ⟨_, by first | rfl | (simp [Zap, Zao] <;> rfl) | (simp [*, Zap, Zao] <;> rfl), by (with_reducible repeat (first | apply Kd.R_alloc | apply Kd.R_drewN | apply Kd.R_drew)); exact Kd.R_mono (Kd.R_far (p := ⟨g02, 2, none⟩) (Kd.R_far (p := ⟨g02, 1, none⟩) (Kd.R_far (p := ⟨g02, 0, none⟩) (Kd.R_types HO_109002.out K02.out (by decide)) (fun _ hk => hk.2) (.int .i64 t103)) (fun _ hk => hk.2) (.int .i64 t104)) (fun _ hk => hk.2) (.slice Ao12 X092_1.length co12)) (fun _ hk => trivial), by repeat (first | (with_reducible first | exact HB.out | apply Zac | apply Zaa | apply Zab | refine Zai ?_ E01.out | refine Zai ?_ E02.out | refine Zai ?_ E08.out) | exact HB.out)⟩
open Go.Maps
def cellP (cells x0 : List Int) (mv : List (Int × Int)) (left : Lit → Bool) (j : Nat) : Int :=
 match mv.find? (fun p => p.2 == (j : Int) && !left (.int .i64 p.1)) with
 | some p => rd cells p.1
 | none => rd x0 j
def Zdv (cells x0 : List Int) (mv : List (Int × Int)) (left : Lit → Bool) : List Int := (List.range x0.length).map (cellP cells x0 mv left)
def cellC (cells x0 : List Int) (mv : List (Int × Int)) (j : Nat) : Int :=
 match mv.find? (fun p => p.2 == (j : Int)) with
 | some p => rd cells p.1
 | none => rd x0 j
def Zdj (cells x0 : List Int) (mv : List (Int × Int)) : List Int := (List.range x0.length).map (cellC cells x0 mv)
def mvOk (n m : Nat) (mv : List (Int × Int)) : Bool := mv.all (fun p => decide (0 ≤ p.1) && decide (p.1 < n) && decide (0 ≤ p.2) && decide (p.2 < m)) && decide (mv.Pairwise fun p q => p.1 ≠ q.1) && decide (mv.Pairwise fun p q => p.2 ≠ q.2) && decide (0 < m) && decide (n < 4294967296) && decide (m < 4294967296)
theorem Zec {α β : Type} {f : α → β} : ∀ {l : List α}, l.Pairwise (fun p q => f p ≠ f q) → ∀ {p q : α}, p ∈ l → q ∈ l → f p = f q → p = q
 | [], _, p, _, hp, _, _ => by cases hp
 | a :: l, h, p, q, hp, hq, he => by
  obtain ⟨h1, h2⟩ := List.pairwise_cons.1 h
  rcases List.mem_cons.1 hp with e1 | hp2
  ·rcases List.mem_cons.1 hq with e2 | hq2
   ·rw [e1, e2]
   ·exact absurd (e1 ▸ he) (h1 q hq2)
  ·rcases List.mem_cons.1 hq with e2 | hq2
   ·exact absurd (e2 ▸ he.symm) (h1 p hp2)
   ·exact Zec h2 hp2 hq2 he
theorem Zho {α : Type} {f g : α → Bool} : ∀ {l : List α}, (∀ p ∈ l, f p = g p) → l.find? f = l.find? g
 | [], _ => rfl
 | a :: l, h => by
  simp only [List.find?_cons, h a (List.mem_cons_self ..)]
  rw [Zho (fun p hp => h p (List.mem_cons_of_mem _ hp))]
theorem Zix (x : Int) : ∀ (mv : List (Int × Int)) (D : DataW Unit), IsMap D → Maps.has (mv.foldl (fun D p => D.put (.int .i64 p.1) (.lit (.int .i64 p.2))) D) (.int .i64 x) = (Maps.has D (.int .i64 x) || mv.any (fun p => p.1 == x))
 | [], D, _ => by simp
 | q :: mv, D, h => by
  rw [List.foldl_cons, Zix x mv _ (h.put _ _), List.any_cons]
  by_cases hq : q.1 = x
  ·subst hq
   rw [has_put_same h (show WideAt.IsKeyLit (.int .i64 q.1) from trivial)]; simp
  ·rw [has_put_other (by intro e; injection e with _ e; exact hq e.symm)]
   have : (q.1 == x) = false := by simpa using hq
   rw [this, Bool.false_or]
theorem Zku (mv : List (Int × Int)) (p : Int × Int) (hp : p ∈ mv) : Maps.has (Zeb mv) (.int .i64 p.1) = true := by
 rw [Zeb, Zix p.1 mv _ isMap_empty]
 simp only [Bool.or_eq_true, List.any_eq_true]
 exact .inr ⟨p, hp, by simp⟩
theorem Zg7 (x c : Int) : ∀ (mv : List (Int × Int)) (D : DataW Unit), IsMap D → (∀ zd, (mv.foldl (fun D p => D.put (.int .i64 p.1) (.lit (.int .i64 p.2))) D).atKey (.int .i64 x) zd = .lit (.int .i64 c)) → (x, c) ∈ mv ∨ ∀ zd, D.atKey (.int .i64 x) zd = .lit (.int .i64 c)
 | [], D, _, h => .inr h
 | q :: mv, D, hD, h => by
  rw [List.foldl_cons] at h
  rcases Zg7 x c mv _ (hD.put _ _) h with h1 | h1
  ·exact .inl (List.mem_cons_of_mem _ h1)
  ·by_cases hq : q.1 = x
   ·subst hq
    have := h1 .nil
    rw [atKey_put_same hD (show WideAt.IsKeyLit (.int .i64 q.1) from trivial)] at this
    injection this with this
    injection this with _ this
    subst this
    exact .inl (List.mem_cons_self ..)
   ·refine .inr fun zd => ?_
    rw [← h1 zd, atKey_put_other (by intro e; injection e with _ e; exact hq e.symm)]
theorem Zi7 (mv : List (Int × Int)) (x c : Int) (h : ∀ zd, (Zeb mv).atKey (.int .i64 x) zd = .lit (.int .i64 c)) : (x, c) ∈ mv := by
 rcases Zg7 x c mv _ isMap_empty h with h1 | h1
 ·exact h1
 ·have := h1 .nil
  rw [atKey_of_not_has (by rfl)] at this
  cases this
theorem rd_nat (l : List Int) (j : Nat) (h : j < l.length) : rd l (j : Int) = l[j] := by simp [rd, List.getD_eq_getElem?_getD, List.getElem?_eq_getElem h]
theorem Zhf (cells x0 : List Int) (mv : List (Int × Int)) : Zdv cells x0 mv (Maps.has (Zeb mv)) = x0 := by
 apply List.ext_getElem
 ·simp [Zdv]
 ·intro j h1 h2
  simp only [Zdv, List.getElem_map, List.getElem_range, cellP]
  have hf : mv.find? (fun p => p.2 == (j : Int) && !Maps.has (Zeb mv) (.int .i64 p.1)) = none := by
   rw [List.find?_eq_none]
   intro p hp
   simp [Zku mv p hp]
  rw [hf]
  exact rd_nat x0 j h2
theorem Zi4 (cells x0 : List Int) (mv : List (Int × Int)) (left : Lit → Bool) (h : ∀ kl, left kl = false) : Zdv cells x0 mv left = Zdj cells x0 mv := by
 unfold Zdv Zdj
 refine List.map_congr_left fun j _ => ?_
 simp only [cellP, cellC, h, Bool.not_false, Bool.and_true]
theorem Zia (cells x0 : List Int) (mv : List (Int × Int)) (left : Lit → Bool) (hok : mvOk cells.length x0.length mv = true) (x c : Int) (hm : (x, c) ∈ mv) :
  (Zdv cells x0 mv left).set c.toNat (rd cells x) = Zdv cells x0 mv (fun z => left z && !z.sameKey (.int .i64 x)) := by
 simp only [mvOk, Bool.and_eq_true, decide_eq_true_eq, List.all_eq_true] at hok
 obtain ⟨⟨⟨⟨⟨hall, hd1⟩, hd2⟩, hpos⟩, hcl⟩, hxl⟩ := hok
 obtain ⟨⟨⟨hx0, hx1⟩, hc0⟩, hc1⟩ := hall _ hm
 simp only at hx0 hx1 hc0 hc1
 apply List.ext_getElem
 ·simp [Zdv]
 ·intro j h1 h2
  rw [List.getElem_set]
  simp only [Zdv, List.getElem_map, List.getElem_range]
  by_cases hj : c.toNat = j
  ·rw [if_pos hj]
   simp only [cellP]
   have hcj : c = (j : Int) := by omega
   cases hf : mv.find? (fun p => p.2 == (j : Int) && !(left (.int .i64 p.1) && !(Lit.int .i64 p.1).sameKey (.int .i64 x))) with
   | none =>
    have := List.find?_eq_none.1 hf _ hm
    simp [hcj, Lit.sameKey] at this
   | some p =>
    have hp := List.mem_of_find?_eq_some hf
    have hp2 := List.find?_some hf
    simp only [Bool.and_eq_true, beq_iff_eq] at hp2
    have : p = (x, c) := Zec hd2 hp hm (by simp only; omega)
    rw [this]
  ·rw [if_neg hj]
   simp only [cellP]
   have hf : mv.find? (fun p => p.2 == (j : Int) && !left (.int .i64 p.1)) = mv.find? (fun p => p.2 == (j : Int) && !(left (.int .i64 p.1) && !(Lit.int .i64 p.1).sameKey (.int .i64 x))) := by
    refine Zho fun p hp => ?_
    by_cases hpj : p.2 = (j : Int)
    ·have hpx : p.1 ≠ x := fun e => by
      have : p = (x, c) := Zec hd1 hp hm (by simpa using e)
      rw [this] at hpj
      simp only at hpj
      omega
     have : (Lit.int .i64 p.1).sameKey (.int .i64 x) = false := by simp [Lit.sameKey, hpx]
     rw [this]; simp
    ·have : (p.2 == (j : Int)) = false := by simpa using hpj
     rw [this]; simp
   rw [hf]
set_option maxHeartbeats 400000 in
set_option maxRecDepth 100000 in
theorem Zf9.calls (k : Nat) (a0_0 : Int) (a0_1 : Int) (A0_2 : Option Addr) (c0_2 : Nat) (l0_2 : List Int) (b n : Nat) (mv : List (Int × Int)) (r1 r2 : Int) (x0 : List Int) (w : World) (hr0_2 : Kd.C (Kd.int .u8) w A0_2 l0_2.length l0_2) (hc0_2 : l0_2.length ≤ c0_2)
  (hown : w.ownsMap Tryz.prog 3 (plainElem Tryz.prog 3) b n (Zeb mv)) (he : Zax.f k a0_0 a0_1 l0_2 = some (r1, r2, x0)) (hok : mvOk l0_2.length x0.length mv = true) :
  Calls Tryz.prog 108 #[.agg #[.int .i64 a0_0, .int .i64 a0_1, .slice A0_2 l0_2.length c0_2], .map (some b)] w fun e w' => ∃ v2_ : Value, e = .returned (.agg #[.int .i64 r1, .int .i64 r2, v2_]) ∧ Kd.R (Kd.int .u8) 5 w' w.heap.size (fun _ => True) v2_ (Zdj l0_2 x0 mv) ∧ Below w.heap.size w w' := by
 have hbl := hown.lt
 go_enter Tryz.func108, Tryz.ntmps108
 go_wp2_with (first
  | (go_at_call 168; refine (Zax.calls k a0_0 a0_1 A0_2 c0_2 l0_2 r1 r2 x0 _ ?_ hc0_2 he).mono ?_; exact Kd.C_alloc (Kd.C_alloc hr0_2 _) _; rintro e w1 ⟨v, rfl, hR, hb1⟩; obtain ⟨A, c, rfl⟩ := Kd.R_slice hR; have hown1 := ((hown.alloc _).alloc _).kept (w' := w1) (row := none) ⟨hb1.os, hb1.tape, hb1.output, hb1.size, fun k hk _ => hb1.block k hk⟩ (by simp))
  | (at_range; refine wpList_range_own _ rfl _ 122 rfl 3 3 law_int Tryz.underlying122 _ b n _ rfl (hown1.alloc _) ?_; intro w0 hrg0 hg0 hs0; go_frame))
 have hok2 := hok
 simp only [mvOk, Bool.and_eq_true, decide_eq_true_eq, List.all_eq_true] at hok2
 obtain ⟨⟨⟨⟨⟨hall, hd1⟩, hd2⟩, hpos⟩, hcl⟩, hxl⟩ := hok2
 obtain ⟨g, cap, eg, hgb, hgl, _⟩ := Kd.R_form hR hpos
 injection eg with eg _ ec
 subst eg ec
 have e0 : ((w.alloc (.cells #[.int .i64 a0_0, .int .i64 a0_1, .slice A0_2 l0_2.length c0_2] 93)).alloc (.cells #[.int .i64 0, .int .i64 0, .slice none 0 0] 93)).heap.size = w.heap.size + 2 := by simp
 rw [e0] at hgb
 have hsz : w.heap.size + 2 ≤ w1.heap.size := by have := hb1.size; rw [e0] at this; exact this
 have e1 : (w1.alloc (.cells #[.int .i64 r1, .int .i64 r2, .slice (some ⟨g, 0, none⟩) x0.length c] 93)).heap.size = w1.heap.size + 1 := by simp
 rw [e1] at hrg0 hs0 ⊢
 have hold : ∀ k, k < w1.heap.size → w0.heap[k]? = w1.heap[k]? := fun k hk => (hg0.block k (by rw [e1]; omega) (by simp)).trans (Below.heap_alloc _ _ _ hk)
 have BT : w0.heap[w.heap.size]? = some (.cells #[.int .i64 a0_0, .int .i64 a0_1, .slice A0_2 l0_2.length c0_2] 93 (0, 0)) := by
  rw [hold _ (by omega), hb1.block _ (by rw [e0]; omega), Below.heap_alloc _ _ _ (by simp)]
  simpa using heap_alloc_new w _
 have BR : w0.heap[w.heap.size + 1]? = some (.cells #[.int .i64 0, .int .i64 0, .slice none 0 0] 93 (0, 0)) := by
  rw [hold _ (by omega), hb1.block _ (by rw [e0]; omega)]
  have := heap_alloc_new (w.alloc (.cells #[.int .i64 a0_0, .int .i64 a0_1, .slice A0_2 l0_2.length c0_2] 93)) (.cells #[.int .i64 0, .int .i64 0, .slice none 0 0] 93)
  simpa using this
 have BO : w0.heap[w1.heap.size]? = some (.cells #[.int .i64 r1, .int .i64 r2, .slice (some ⟨g, 0, none⟩) x0.length c] 93 (0, 0)) := by
  rw [hg0.block _ (by rw [e1]; omega) (by simp)]
  simpa using heap_alloc_new w1 _
 have hB1 : Below w.heap.size w w1 := ((((Below.refl _ _).alloc (Nat.le_refl _) _).alloc (by simp) _).trans (hb1.mono (by rw [e0]; omega)))
 have hB0 : Below w.heap.size w w0 := (hB1.alloc hB1.size _).grown hg0 (by rw [e1]; omega) (fun k hk => by cases hk)
 have hR0 : Kd.R (Kd.int .u8) 5 w0 w.heap.size (fun k => some k = (Value.slice (some ⟨g, 0, none⟩) x0.length c).ownBlock) (.slice (some ⟨g, 0, none⟩) x0.length c) x0 :=
  Kd.R_lower (Kd.R_step (Kd.R_tight rfl hR) (fun k _ hk => hold k hk)) (by rw [e0]; omega)
 clear hR hb1 hown1 hg0 hold hB1
 have HBT := Zad.mk BT
 have HBR := Zad.mk BR
 have HBO := Zad.mk BO
 clear BT BR BO e0 e1
 go_loopw [6] (fun _ wr => ∃ (left : Lit → Bool) (cnt : Nat), wr.ranges Tryz.prog 3 (plainElem (H := Unit) Tryz.prog 3) b (w1.heap.size + 1) n (Zeb mv) left cnt ∧
   Kd.R (Kd.int .u8) 5 wr w.heap.size (fun k => some k = (Value.slice (some ⟨g, 0, none⟩) x0.length c).ownBlock) (.slice (some ⟨g, 0, none⟩) x0.length c) (Zdv l0_2 x0 mv left) ∧ Kept w0 wr (fun k => k = g ∨ k = w1.heap.size + 1) ∧ Below w.heap.size w wr)
  (fun _ wr => wr.rangeLeft b (w1.heap.size + 1))
 case atStart => exact ⟨_, _, hrg0, by rw [Zhf]; exact hR0, Kept.refl _ _, hB0⟩
 case round =>
  obtain ⟨left, cnt, hrg, hR, hK, hB⟩ := hrel
  go_wp2_with (at_next; refine wpList_next_ranges_ii _ rfl _ rfl 3 3 .i64 .i64 law_int Tryz.underlying3 Tryz.underlying3 b (w1.heap.size + 1) n _ _ _ rfl hrg ?_ ?_)
  ·intro hc0 hl0
   have bO := Zcv HBO.out hK (by omega)
   have bR := Zcv HBR.out hK (by omega)
   have hz0 : wr.cell? ⟨w1.heap.size, 0, none⟩ = some (.int .i64 r1) := (Zah bO 0).trans rfl
   have hz1 : wr.cell? ⟨w1.heap.size, 1, none⟩ = some (.int .i64 r2) := (Zah bO 1).trans rfl
   have hz2 : wr.cell? ⟨w1.heap.size, 2, none⟩ = some (.slice (some ⟨g, 0, none⟩) x0.length c) := (Zah bO 2).trans rfl
   have hy0 : wr.cell? ⟨w.heap.size + 1, 0, none⟩ = some (.int .i64 0) := (Zah bR 0).trans rfl
   have hy1 : wr.cell? ⟨w.heap.size + 1, 1, none⟩ = some (.int .i64 0) := (Zah bR 1).trans rfl
   have hy2 : wr.cell? ⟨w.heap.size + 1, 2, none⟩ = some (.slice none 0 0) := (Zah bR 2).trans rfl
   have hf0 := Zae bR 0
   have hf1 := Zae bR 1
   have hf2 := Zae bR 2
   go_wp2
   refine bodyPost_ret (results_cell_row rfl _ _ (w.heap.size + 1) 93 #[.int .i64 r1, .int .i64 r2, .slice (some ⟨g, 0, none⟩) x0.length c] (0, 0) _ rfl ?_ Tryz.underlying93 rfl (by kernel_rfl)) rfl ?_
   ·refine Zav (cs := #[.int .i64 r1, .int .i64 r2, .slice none 0 0]) ?_ 2 _ rfl
    refine Zav (cs := #[.int .i64 r1, .int .i64 0, .slice none 0 0]) ?_ 1 _ rfl
    exact Zav (cs := #[.int .i64 0, .int .i64 0, .slice none 0 0]) bR 0 _ rfl
   ·rw [Zi4 _ _ _ _ hl0] at hR
    have hne : ∀ k, some k = (Value.slice (some ⟨g, 0, none⟩) x0.length c).ownBlock → k ≠ w.heap.size + 1 := fun k hk => by
     simp [Value.ownBlock] at hk; omega
    exact ⟨_, rfl, Kd.R_mono (Kd.R_far (p := ⟨w.heap.size + 1, 2, none⟩) (Kd.R_far (p := ⟨w.heap.size + 1, 1, none⟩) (Kd.R_far (p := ⟨w.heap.size + 1, 0, none⟩) hR hne _) hne _) hne _) (fun _ _ => trivial), ((hB.setCell (Nat.le_succ _) _).setCell (Nat.le_succ _) _).setCell (Nat.le_succ _) _⟩
  ·intro x c' w2 cnt1 hwx hwc hlx hat hrg1 hlt hg1 hs1 hen
   have hmem := Zi7 mv x c' hat
   obtain ⟨⟨⟨hx0, hx1⟩, hc0⟩, hc1⟩ := hall _ hmem
   have hK2 : Kept w0 w2 (fun k => k = g ∨ k = w1.heap.size + 1) := Kept.of_grown hg1 hK (fun k hk => by injection hk with hk; exact .inl (.inr hk.symm))
   have hB2 : Below w.heap.size w w2 := hB.grown hg1 hB.size (fun k hk => by injection hk with hk; omega)
   have hR2 := Kd.R_grown hR hg1 (fun k hk e => by rw [hk] at e; simp [Value.ownBlock] at e; omega)
   have bO := Zcv HBO.out hK2 (by omega)
   have bT := Zcv HBT.out hK2 (by omega)
   have hz2 : w2.cell? ⟨w1.heap.size, 2, none⟩ = some (.slice (some ⟨g, 0, none⟩) x0.length c) := (Zah bO 2).trans rfl
   have ht2 : w2.cell? ⟨w.heap.size, 2, none⟩ = some (.slice A0_2 l0_2.length c0_2) := (Zah bT 2).trans rfl
   obtain ⟨ad4, e4, hy4⟩ := Kd.at_int hr0_2 x hx0 hx1
   subst e4
   replace hy4 := (hB2.cell (World.block_lt_of_cell? w _ hy4)).trans hy4
   obtain ⟨hg4, hf4⟩ := Kd.R_celln 0 hR2 c' hc0 hc1
   have p1 := eq_true hx0
   have q1 := eq_true hx1
   have p2 := eq_true hc0
   have q2 := eq_true hc1
   have HP := Kd.R_putg hR2 c' (rd l0_2 x)
   rw [Zia _ _ _ _ hok _ _ hmem] at HP
   have HPA := Zad.mk HP
   clear HP
   go_wp2
   go_region
   have hg3 : w2.grownBy ((w2.setCell ⟨g, c'.toNat, none⟩ (.int .u8 (rd l0_2 x))).drew) (some g) := ⟨HPA.out.2.os, HPA.out.2.tape, HPA.out.2.output, HPA.out.2.size, HPA.out.2.block⟩
   have hrg3 := hrg1.kept hg3 (fun e => by have := Option.some.inj e; omega) (fun e => by have := Option.some.inj e; omega)
   go_wp2
   go_roundw
   case rel => exact ⟨_, cnt1, hrg3, (by exact HPA.out.1), Kept.of_grown hg3 hK2 (fun k hk => by injection hk with hk; exact .inl (.inl hk.symm)), hB2.grown hg3 hB2.size (fun k hk => by injection hk with hk; omega)⟩
   case measure => rw [hrg3.left_eq, hrg.left_eq]; exact hlt
def Zcg.f (k : Nat) (a0_0 a0_1 : Int) (l0_2 : List Int) (a1 : Int) : Option (Int × Int × List Int) :=
 (Zar.f k a0_0 a0_1 l0_2 a1).bind fun S => (Zio l0_2 S).bind fun mv => (Zax.f k a0_0 a0_1 l0_2).bind fun r =>
  if mvOk l0_2.length r.2.2.length mv = true then some (r.1, r.2.1, Zdj l0_2 r.2.2 mv) else none
theorem Zcx {B : Nat} {w w1 : World} (h : Below B w.drew w1) : Below B w w1 := ⟨h.os, h.tape, h.output, h.size, h.block⟩
theorem two_old {w w1 : World} {o1 o2 : Obj} (hb : Below ((w.alloc o1).alloc o2).heap.size ((w.alloc o1).alloc o2) w1) :
  w1.heap[w.heap.size]? = some o1 ∧ w1.heap[w.heap.size + 1]? = some o2 ∧ Below w.heap.size w w1 ∧ w.heap.size + 2 ≤ w1.heap.size := by
 have e0 : ((w.alloc o1).alloc o2).heap.size = w.heap.size + 2 := by simp
 refine ⟨?_, ?_, (((Below.refl _ _).alloc (Nat.le_refl _) _).alloc (by simp) _).trans (hb.mono (by rw [e0]; omega)), by have := hb.size; rw [e0] at this; exact this⟩
 ·rw [hb.block _ (by rw [e0]; omega), Below.heap_alloc _ _ _ (by simp)]
  simpa using heap_alloc_new w o1
 ·rw [hb.block _ (by rw [e0]; omega)]
  simpa using heap_alloc_new (w.alloc o1) o2
set_option maxHeartbeats 400000 in
set_option maxRecDepth 100000 in
theorem Zcg.calls (k : Nat) (a0_0 : Int) (a0_1 : Int) (A0_2 : Option Addr) (c0_2 : Nat) (l0_2 : List Int) (a1 : Int) (r1 : Int) (r2 : Int) (r3 : List Int) (w : World) (hr0_2 : Kd.C (Kd.int .u8) w A0_2 l0_2.length l0_2) (hc0_2 : l0_2.length ≤ c0_2) (h : Zcg.f k a0_0 a0_1 l0_2 a1 = some (r1, r2, r3)) :
  Calls Tryz.prog 70 #[.agg #[.int .i64 a0_0, .int .i64 a0_1, .slice A0_2 l0_2.length c0_2], .int .u8 a1] w fun e w' => ∃ v2_ : Value, e = .returned (.agg #[.int .i64 r1, .int .i64 r2, v2_]) ∧ Kd.R (Kd.int .u8) 5 w' w.heap.size (fun _ => True) v2_ r3 ∧ Below w.heap.size w w' := by
 unfold Zcg.f at h
 obtain ⟨S, hS, h⟩ := Option.bind_eq_some_iff.mp h
 obtain ⟨mv, hmv, h⟩ := Option.bind_eq_some_iff.mp h
 obtain ⟨⟨q1, q2, x0⟩, he, h⟩ := Option.bind_eq_some_iff.mp h
 simp only at h
 split at h
 case isFalse => cases h
 rename_i hok
 simp only [Option.some.injEq, Prod.mk.injEq] at h
 obtain ⟨rfl, rfl, rfl⟩ := h
 go_enter Tryz.func70, Tryz.ntmps70
 go_wp2
 have hr0 : Kd.C (Kd.int .u8) ((w.alloc (.cells #[.int .i64 a0_0, .int .i64 a0_1, .slice A0_2 l0_2.length c0_2] 93)).alloc (.cells #[.int .i64 0, .int .i64 0, .slice none 0 0] 93)) A0_2 l0_2.length l0_2 := Kd.C_alloc (Kd.C_alloc hr0_2 _) _
 go_region_with (first
  | (go_at_call 109; go_must (refine (Zg3.calls k a0_0 a0_1 A0_2 c0_2 l0_2 a1 S mv _ ?_ hc0_2 hS hmv).mono ?_; (first | exact hr0 | exact Kd.C_drew hr0 | exact Kd.C_drew (Kd.C_drew hr0)); rintro e w1 ⟨b, rfl, hb, hown, hb1⟩; obtain ⟨hBX, hRS, hBw, hsz⟩ := two_old (w := w) (o1 := .cells #[.int .i64 a0_0, .int .i64 a0_1, .slice A0_2 l0_2.length c0_2] 93) (o2 := .cells #[.int .i64 0, .int .i64 0, .slice none 0 0] 93) (w1 := w1) (by first | exact hb1 | exact Zcx hb1 | exact Zcx (Zcx hb1)); have hr1 := Kd.C_below hr0_2 hBw; have z0 : w1.cell? ⟨w.heap.size, 0, none⟩ = some (.int .i64 a0_0) := (Zah hBX 0).trans rfl; have z1 : w1.cell? ⟨w.heap.size, 1, none⟩ = some (.int .i64 a0_1) := (Zah hBX 1).trans rfl; have z2 : w1.cell? ⟨w.heap.size, 2, none⟩ = some (.slice A0_2 l0_2.length c0_2) := (Zah hBX 2).trans rfl))
  | (go_at_call 108; go_must (refine (Zf9.calls k a0_0 a0_1 A0_2 c0_2 l0_2 b mv.length mv q1 q2 x0 _ ?_ hc0_2 ?_ he hok).mono ?_; (first | exact hr1 | exact Kd.C_drew hr1 | exact Kd.C_drew (Kd.C_drew hr1)); exact hown; rintro e w2 ⟨v, rfl, hR2, hb2⟩; obtain ⟨Av, cv, rfl⟩ := Kd.R_slice hR2; have hRS2 := (show Below w1.heap.size w1 w2 by first | exact hb2 | exact Zcx hb2 | exact Zcx (Zcx hb2)).block _ (show w.heap.size + 1 < w1.heap.size by omega) |>.trans hRS; have y0 : w2.cell? ⟨w.heap.size + 1, 0, none⟩ = some (.int .i64 0) := (Zah hRS2 0).trans rfl; have y1 : w2.cell? ⟨w.heap.size + 1, 1, none⟩ = some (.int .i64 0) := (Zah hRS2 1).trans rfl; have y2 : w2.cell? ⟨w.heap.size + 1, 2, none⟩ = some (.slice none 0 0) := (Zah hRS2 2).trans rfl; have f0 := Zae hRS2 0; have f1 := Zae hRS2 1; have f2 := Zae hRS2 2)))
 all_goals
  have hR3 : Kd.R (Kd.int .u8) 5 w2 w.heap.size (fun k => w.heap.size + 1 < k) (.slice Av (Zdj l0_2 x0 mv).length cv) (Zdj l0_2 x0 mv) :=
   Kd.R_lower (Kd.R_mono (Kd.R_bound hR2) (fun k hk => Nat.lt_of_lt_of_le (show w.heap.size + 1 < w1.heap.size by omega) hk.2.1)) hBw.size
  have hB2 : Below w.heap.size w w2 := hBw.trans ((show Below w1.heap.size w1 w2 by first | exact hb2 | exact Zcx hb2 | exact Zcx (Zcx hb2)).mono hBw.size)
  go_wp2
  refine bodyPost_ret (results_cell_row rfl _ _ (w.heap.size + 1) 93 #[.int .i64 q1, .int .i64 q2, .slice Av (Zdj l0_2 x0 mv).length cv] (0, 0) _ rfl ?_ Tryz.underlying93 rfl (by kernel_rfl)) rfl ?_
  ·first
   | exact Zav (cs := #[.int .i64 q1, .int .i64 q2, .slice none 0 0]) (Zav (cs := #[.int .i64 q1, .int .i64 0, .slice none 0 0]) (Zav (cs := #[.int .i64 0, .int .i64 0, .slice none 0 0]) hRS2 0 _ rfl) 1 _ rfl) 2 _ rfl
   | exact Zaj (Zav (cs := #[.int .i64 q1, .int .i64 q2, .slice none 0 0]) (Zav (cs := #[.int .i64 q1, .int .i64 0, .slice none 0 0]) (Zav (cs := #[.int .i64 0, .int .i64 0, .slice none 0 0]) hRS2 0 _ rfl) 1 _ rfl) 2 _ rfl)
  ·have hne : ∀ k, w.heap.size + 1 < k → k ≠ w.heap.size + 1 := fun k hk => by omega
   have hR4 := Kd.R_mono (ok' := fun _ => True) (Kd.R_far (p := ⟨w.heap.size + 1, 2, none⟩) (Kd.R_far (p := ⟨w.heap.size + 1, 1, none⟩) (Kd.R_far (p := ⟨w.heap.size + 1, 0, none⟩) hR3 hne (.int .i64 q1)) hne (.int .i64 q2)) hne (.slice Av (Zdj l0_2 x0 mv).length cv)) (fun _ _ => trivial)
   have hB4 := ((hB2.setCell (p := ⟨w.heap.size + 1, 0, none⟩) (Nat.le_succ _) (.int .i64 q1)).setCell (p := ⟨w.heap.size + 1, 1, none⟩) (Nat.le_succ _) (.int .i64 q2)).setCell (p := ⟨w.heap.size + 1, 2, none⟩) (Nat.le_succ _) (.slice Av (Zdj l0_2 x0 mv).length cv)
   first
   | exact ⟨_, rfl, hR4, hB4⟩
   | exact ⟨_, rfl, Kd.R_drew hR4, hB4.drew⟩
def putGo (cells own : List Int) : Nat → List Int → List Int → List Int
 | _, [], x => x
 | n, k :: ks, x => if ballB (rd cells k) = true then putGo cells own (n + 1) ks (x.set (rd own n).toNat (rd cells k)) else putGo cells own n ks x
def putS (cells : List Int) (S : List (List Int)) (x : List Int) : List Int := S.foldl (fun x own => putGo cells own 0 own x) x
theorem Zfx (c : Int) : Zcb.f c = some (ballB c) := by
 unfold Zcb.f ballB
 by_cases h : c = 111
 ·simp [h]
 ·by_cases h2 : 97 ≤ c <;> simp [h, h2]
def Zde.f (k : Nat) (a0_0 a0_1 : Int) (l0_2 : List Int) (a1 : Int) : Option (Int × Int × List Int) :=
 (Zbf.f k a0_0 a0_1 l0_2).bind fun r => (Zam.f k a0_0 a0_1 l0_2 a1).bind fun S =>
  if Zfg l0_2 S = true ∧ r.2.2.length = l0_2.length ∧ 0 < l0_2.length ∧ l0_2.length < 4294967296 ∧ S.length < 4294967296 ∧ (∀ own ∈ S, own.length < 4294967296) then some (r.1, r.2.1, putS l0_2 S r.2.2) else none
theorem Zkm {w1 : World} {base b n c : Nat} {A : Option Addr} {S : List (List Int)} (h : Kd.N (Kd.slice 3 (Kd.int .i64)) 31 w1 base (fun k => base ≤ k) (.slice A n c) S) (hb : b < base) :
  n = S.length ∧ ∀ i : Int, 0 ≤ i → i < S.length → ∃ ad A' c', A = some ad ∧ ∀ W, Kept w1 W (fun k => k = b) → W.cell? (ad.add i.toNat) = some (.slice A' (rd_L3 S i).length c') ∧ (rd_L3 S i).length ≤ c' ∧ Kd.C (Kd.int .i64) W A' (rd_L3 S i).length (rd_L3 S i) := by
 have hn := (Kd.N_reads' h).1
 subst hn
 refine ⟨rfl, fun i h0 h1 => ?_⟩
 obtain ⟨ad, A', c', e1, hc, hl, hC⟩ := at_L3 (Kd.N_reads' h).2.2 i h0 h1
 obtain ⟨g, cap, e2, hbg, hg, _⟩ := Kd.N_form h (by omega)
 injection e2 with e3 _ _
 subst e1
 injection e3 with e3
 subst e3
 refine ⟨_, A', c', rfl, fun W hW => ?_⟩
 have hS2 := Kd.N_kept h hW (fun k hk e => by omega)
 obtain ⟨ad2, A2, c2, e4, hc2, hl2, hC2⟩ := at_L3 (Kd.N_reads' hS2).2.2 i h0 h1
 injection e4 with e4
 subst e4
 have hsame : W.cell? ((⟨g, 0, none⟩ : Addr).add i.toNat) = w1.cell? ((⟨g, 0, none⟩ : Addr).add i.toNat) := by
  rw [Zep]
  exact Zew (hW.2 g hg (by omega)) _
 have hv := Option.some.inj (hc2.symm.trans (hsame.trans hc))
 injection hv with h5 h6 h7
 subst h5 h7
 exact ⟨hc2, hl2, hC2⟩
theorem Zjb {k : Nat} {a0_0 a0_1 : Int} {l0_2 : List Int} {a1 r1 r2 : Int} {r3 : List Int} (h : Zde.f k a0_0 a0_1 l0_2 a1 = some (r1, r2, r3)) :
  ∃ x0 S, Zbf.f k a0_0 a0_1 l0_2 = some (r1, r2, x0) ∧ Zam.f k a0_0 a0_1 l0_2 a1 = some S ∧ Zfg l0_2 S = true ∧ x0.length = l0_2.length ∧ 0 < l0_2.length ∧ l0_2.length < 4294967296 ∧ S.length < 4294967296 ∧ (∀ own ∈ S, own.length < 4294967296) ∧ r3 = putS l0_2 S x0 := by
 unfold Zde.f at h
 obtain ⟨⟨q1, q2, x0⟩, hW, h1⟩ := Option.bind_eq_some_iff.mp h
 obtain ⟨S, hS, h2⟩ := Option.bind_eq_some_iff.mp h1
 split at h2
 ·rename_i hok
  simp only [Option.some.injEq, Prod.mk.injEq] at h2
  obtain ⟨rfl, rfl, rfl⟩ := h2
  exact ⟨x0, S, hW, hS, hok.1, hok.2.1, hok.2.2.1, hok.2.2.2.1, hok.2.2.2.2.1, hok.2.2.2.2.2, rfl⟩
 ·cases h2
set_option maxHeartbeats 1000000 in
set_option maxRecDepth 100000 in
theorem Zde.calls (k : Nat) (a0_0 : Int) (a0_1 : Int) (A0_2 : Option Addr) (c0_2 : Nat) (l0_2 : List Int) (a1 : Int) (r1 : Int) (r2 : Int) (r3 : List Int) (w : World) (hr0_2 : Kd.C (Kd.int .u8) w A0_2 l0_2.length l0_2) (hc0_2 : l0_2.length ≤ c0_2) (h : Zde.f k a0_0 a0_1 l0_2 a1 = some (r1, r2, r3)) :
    Calls Tryz.prog 65 #[.agg #[.int .i64 a0_0, .int .i64 a0_1, .slice A0_2 l0_2.length c0_2], .int .i64 a1] w fun e w' => ∃ v2_ : Value, e = .returned (.agg #[.int .i64 r1, .int .i64 r2, v2_]) ∧ Kd.R (Kd.int .u8) 5 w' w.heap.size (fun _ => True) v2_ r3 ∧ Below w.heap.size w w' := by
  obtain ⟨x0, S, hW, hS, hin, hxl, hpos, hlc, hlS, hlo, rfl⟩ := Zjb h
  clear h
  have HXL := Zad.mk hxl
  clear hxl
  have e0 : ((w.alloc (.cells #[.int .i64 a0_0, .int .i64 a0_1, .slice A0_2 l0_2.length c0_2] 52)).alloc (.cells #[.int .i64 0, .int .i64 0, .slice none 0 0] 52)).heap.size = w.heap.size + 2 := by simp
  go_enter Tryz.func65, Tryz.ntmps65
  go_wp2_with (first
    | (go_at_call 102; refine (Zbf.calls k a0_0 a0_1 A0_2 c0_2 l0_2 r1 r2 x0 _ ?_ hc0_2 hW).mono ?_; exact Kd.C_alloc (Kd.C_alloc hr0_2 _) _; rintro e w1 ⟨v, rfl, hR, hb1⟩; obtain ⟨A, c, rfl⟩ := Kd.R_slice hR;
       have BT : w1.heap[w.heap.size]? = some (.cells #[.int .i64 a0_0, .int .i64 a0_1, .slice A0_2 l0_2.length c0_2] 52 (0, 0)) := (by rw [hb1.block _ (by rw [e0]; omega), Below.heap_alloc _ _ _ (by simp)]; simpa using heap_alloc_new w _);
       have hlt1 : w.heap.size < w1.heap.size := (by have := hb1.size; rw [e0] at this; omega);
       have BTa := (Below.heap_alloc w1 (.cells #[.int .i64 r1, .int .i64 r2, .slice A x0.length c] 52) _ hlt1).trans BT;
       have ht0 := (Zah BTa 0).trans (show _ = some (Value.int .i64 a0_0) from rfl); have ht1 := (Zah BTa 1).trans (show _ = some (Value.int .i64 a0_1) from rfl); have ht2 := (Zah BTa 2).trans (show _ = some (Value.slice A0_2 l0_2.length c0_2) from rfl))
    | (go_at_call 103; refine (Zam.calls k a0_0 a0_1 A0_2 c0_2 l0_2 a1 S _ ?_ hc0_2 hS).mono ?_; exact Kd.C_alloc (Kd.C_below (Kd.C_alloc (Kd.C_alloc hr0_2 _) _) hb1) _; rintro e w2 ⟨vS, rfl, hSS, hb2⟩; obtain ⟨AS, cS, rfl⟩ := Kd.N_slice hSS))
  have hxl := HXL.out
  obtain ⟨g, cap, eg, hgb, hgl, _⟩ := Kd.R_form hR (by omega)
  injection eg with eg _ ec
  subst eg ec
  rw [e0] at hgb
  have hsz : w.heap.size + 2 ≤ w1.heap.size := by have := hb1.size; rw [e0] at this; exact this
  have e1 : (w1.alloc (.cells #[.int .i64 r1, .int .i64 r2, .slice (some ⟨g, 0, none⟩) x0.length c] 52)).heap.size = w1.heap.size + 1 := by simp
  rw [e1] at hSS hb2
  have hold : ∀ k, k < w1.heap.size → w2.heap[k]? = w1.heap[k]? := fun k hk => (hb2.block k (by omega)).trans (Below.heap_alloc _ _ _ hk)
  have BT2 : w2.heap[w.heap.size]? = some (.cells #[.int .i64 a0_0, .int .i64 a0_1, .slice A0_2 l0_2.length c0_2] 52 (0, 0)) := (hold _ (by omega)).trans BT
  have BR : w2.heap[w.heap.size + 1]? = some (.cells #[.int .i64 0, .int .i64 0, .slice none 0 0] 52 (0, 0)) := by
    rw [hold _ (by omega), hb1.block _ (by rw [e0]; omega)]
    have := heap_alloc_new (w.alloc (.cells #[.int .i64 a0_0, .int .i64 a0_1, .slice A0_2 l0_2.length c0_2] 52)) (.cells #[.int .i64 0, .int .i64 0, .slice none 0 0] 52)
    simpa using this
  have BO : w2.heap[w1.heap.size]? = some (.cells #[.int .i64 r1, .int .i64 r2, .slice (some ⟨g, 0, none⟩) x0.length c] 52 (0, 0)) := by
    rw [hb2.block _ (by omega)]
    simpa using heap_alloc_new w1 _
  have hB1 : Below w.heap.size w w1 := ((((Below.refl _ _).alloc (Nat.le_refl _) _).alloc (by simp) _).trans (hb1.mono (by rw [e0]; omega)))
  have hB2 : Below w.heap.size w w2 := (hB1.alloc hB1.size _).trans (hb2.mono (by omega))
  have hR2 : Kd.R (Kd.int .u8) 5 w2 w.heap.size (fun k => some k = (Value.slice (some ⟨g, 0, none⟩) x0.length c).ownBlock) (.slice (some ⟨g, 0, none⟩) x0.length c) x0 :=
    Kd.R_lower (Kd.R_step (Kd.R_tight rfl hR) (fun k _ hk => hold k hk)) (by rw [e0]; omega)
  have hrows := (Zkm (b := g) hSS (by omega)).2
  clear hR hb1 hold hB1 BT BTa ht0 ht1 ht2 hSS hb2 e0 e1 hxl
  have HBT := Zad.mk BT2
  have HBR := Zad.mk BR
  have HBO := Zad.mk BO
  clear BT2 BR BO
  have hat : ∀ (i j : Nat), i < S.length → j < (rd_L3 S i).length → 0 ≤ rd (rd_L3 S i) j ∧ rd (rd_L3 S i) j < l0_2.length := by
    intro i j hi hj
    have h1 := List.all_eq_true.1 hin (rd_L3 S i) (by simp only [rd_L3, Int.toNat_natCast, List.getD_eq_getElem?_getD, List.getElem?_eq_getElem hi]; exact List.getElem_mem _)
    have h2 := List.all_eq_true.1 h1 (rd (rd_L3 S i) j) (by simp only [rd, Int.toNat_natCast, List.getD_eq_getElem?_getD, List.getElem?_eq_getElem hj]; exact List.getElem_mem _)
    simpa using h2
  have hlen : ∀ i : Nat, i < S.length → (rd_L3 S i).length < 4294967296 := by
    intro i hi
    exact hlo _ (by simp only [rd_L3, Int.toNat_natCast, List.getD_eq_getElem?_getD, List.getElem?_eq_getElem hi]; exact List.getElem_mem _)
  have HAT := Zad.mk hat
  have HLEN := Zad.mk hlen
  have HROWS := Zad.mk hrows
  clear hat hlen hrows hin hlo
  go_loopw [17] (fun v17 wr => ∃ (i : Nat) (x : List Int), i ≤ S.length ∧ v17 = .int .i64 i ∧ Zad (putS l0_2 S x0 = putS l0_2 (S.drop i) x) ∧ x.length = x0.length ∧ Kd.R (Kd.int .u8) 5 wr w.heap.size (fun k => some k = (Value.slice (some ⟨g, 0, none⟩) x0.length c).ownBlock) (.slice (some ⟨g, 0, none⟩) x0.length c) x ∧ Kept w2 wr (fun k => k = g) ∧ Below w.heap.size w wr)
    (fun v17 _ => S.length - (intOf v17).toNat)
  case atStart => exact ⟨0, x0, Nat.zero_le _, rfl, ⟨by simp⟩, rfl, hR2, Kept.refl _ _, hB2⟩
  case round =>
    clear hR2 hB2
    obtain ⟨i, x, hi, rfl, HD, hxx, hR, hK, hB⟩ := hrel
    rcases Nat.lt_or_eq_of_le hi with hlt | heq
    · obtain ⟨ad, A', c', e1, hW⟩ := HROWS.out i (by omega) (by omega)
      subst e1
      obtain ⟨hx1, hl1, hC1⟩ := hW wr hK
      have HW := Zad.mk hW
      clear hW
      have p1 := eq_true (show (0 : Int) ≤ (i : Int) by omega)
      have q1 := eq_true (show (i : Int) < (S.length : Int) by omega)
      have hsplit : putS l0_2 (S.drop i) x = putS l0_2 (S.drop (i + 1)) (putGo l0_2 (rd_L3 S i) 0 (rd_L3 S i) x) := by
        have hr : rd_L3 S i = S[i] := by simp [rd_L3, List.getD_eq_getElem?_getD, List.getElem?_eq_getElem hlt]
        rw [hr, putS, List.drop_eq_getElem_cons hlt, List.foldl_cons]
        rfl
      have HS2 := Zad.mk hsplit
      clear hsplit
      obtain ⟨own, hownd⟩ : ∃ own, own = rd_L3 S i := ⟨_, rfl⟩
      rw [← hownd] at hx1 hl1 hC1 HW HS2
      have HLO : Zad (own.length < 4294967296) := ⟨hownd ▸ HLEN.out i hlt⟩
      have HA2 : Zad (∀ j : Nat, j < own.length → 0 ≤ rd own j ∧ rd own j < l0_2.length) := ⟨fun j hj => by rw [hownd]; exact HAT.out i j hlt (hownd ▸ hj)⟩
      clear hownd
      rw [Int.toNat_natCast] at hx1
      go_wp2
      go_loopw [8, 23] (fun v8 v23 wq => ∃ (j n : Nat) (y : List Int), j ≤ own.length ∧ n ≤ j ∧ v8 = .int .i64 n ∧ v23 = .int .i64 j ∧ Zad (putS l0_2 S x0 = putS l0_2 (S.drop (i + 1)) (putGo l0_2 own n (own.drop j) y)) ∧ y.length = x0.length ∧ Kd.R (Kd.int .u8) 5 wq w.heap.size (fun k => some k = (Value.slice (some ⟨g, 0, none⟩) x0.length c).ownBlock) (.slice (some ⟨g, 0, none⟩) x0.length c) y ∧ Kept w2 wq (fun k => k = g) ∧ Below w.heap.size w wq)
        (fun _ v23 _ => own.length - (intOf v23).toNat)
      case atStart => exact ⟨0, 0, x, Nat.zero_le _, Nat.le_refl _, rfl, rfl, ⟨by rw [HD.out, HS2.out]; simp⟩, hxx, hR, hK, hB⟩
      case round =>
        clear hx1 hl1 hC1 hR hK hB hxx
        obtain ⟨j, n, y, hj, hn, rfl, rfl, HD2, hyx, hR, hK, hB⟩ := hrel
        rcases Nat.lt_or_eq_of_le hj with hlt2 | heq2
        · obtain ⟨hx2, hl2, hC2⟩ := HW.out wr hK
          obtain ⟨ad2, e2, hy2⟩ := Kd.at_int hC2 (j : Int) (by omega) (by omega)
          obtain ⟨ad3, e3, hy3⟩ := Kd.at_int hC2 (n : Int) (by omega) (by omega)
          subst e2
          injection e3 with e3
          subst e3
          rw [Int.toNat_natCast] at hy2 hy3
          obtain ⟨hk0, hk1⟩ := HA2.out j hlt2
          obtain ⟨hv0, hv1⟩ := HA2.out n (by omega)
          obtain ⟨ad4, e4, hy4⟩ := Kd.at_int hr0_2 (rd own j) hk0 hk1
          subst e4
          replace hy4 := (hB.cell (World.block_lt_of_cell? w _ hy4)).trans hy4
          have bT := Zcv HBT.out hK (by omega)
          have hz2 := Zah bT 2
          have bO := Zcv HBO.out hK (by omega)
          have hz5 : wr.cell? ⟨w1.heap.size, 2, none⟩ = some (.slice (some ⟨g, 0, none⟩) x0.length c) := (Zah bO 2).trans rfl
          have hstep : putGo l0_2 own n (own.drop j) y = if ballB (rd l0_2 (rd own j)) = true then putGo l0_2 own (n + 1) (own.drop (j + 1)) (y.set (rd own n).toNat (rd l0_2 (rd own j))) else putGo l0_2 own n (own.drop (j + 1)) y := by
            have hr : rd own (j : Int) = own[j] := by simp [rd, List.getD_eq_getElem?_getD, List.getElem?_eq_getElem hlt2]
            rw [hr]
            conv => lhs; rw [List.drop_eq_getElem_cons hlt2]
            rfl
          have HST := Zad.mk hstep
          clear hstep
          have p2 := eq_true (show (0 : Int) ≤ (j : Int) by omega)
          have q2 := eq_true (show (j : Int) < (own.length : Int) by omega)
          have p3 := eq_true (show (0 : Int) ≤ (n : Int) by omega)
          have q3 := eq_true (show (n : Int) < (own.length : Int) by omega)
          have p4 := eq_true hk0
          have q4 := eq_true hk1
          have p5 := eq_true hv0
          have q5 := eq_true (show rd own n < (x0.length : Int) by have := HXL.out; omega)
          obtain ⟨hg4, hf4⟩ := Kd.R_celln 0 hR (rd own n) hv0 (by have := HXL.out; omega)
          clear hk0 hk1 hv0 hv1
          cases hbb : ballB (rd l0_2 (rd own j))
          · go_wp2_with (go_at_call 91; refine (Zcb.calls (rd l0_2 (rd own j)) false _ (by rw [Zfx, hbb])).mono ?_; rintro e w2 ⟨rfl, ⟨nd, rfl⟩⟩)
            go_roundw
            case rel => exact ⟨j + 1, n, y, by omega, by omega, rfl, by rw [Zdu j (by have := HLO.out; omega)], ⟨by rw [HD2.out, HST.out, hbb]; simp⟩, hyx, (by exact Kd.R_drewN hR nd), hK.drewN nd, Zaa hB nd⟩
            case measure => rw [Zdu j (by have := HLO.out; omega)]; simp [intOf]; omega
          · go_wp2_with (go_at_call 91; refine (Zcb.calls (rd l0_2 (rd own j)) true _ (by rw [Zfx, hbb])).mono ?_; rintro e w2 ⟨rfl, ⟨nd, rfl⟩⟩)
            go_region
            have HP := Kd.R_putg (Kd.R_drewN hR (nd + 1)) (rd own n) (rd l0_2 (rd own j))
            have hK3 := Kept.of_grown (S := fun k => k = g) HP.2 (hK.drewN (nd + 1)) (fun k hk => by injection hk with hk; exact .inl hk.symm)
            have hB3 := (Zaa hB (nd + 1)).grown HP.2 (by have := hB.size; simpa using this) (fun k hk => by injection hk with hk; omega)
            go_wp2
            go_roundw
            case rel => exact ⟨j + 1, n + 1, _, by omega, by omega, by rw [Zdu n (by have := HLO.out; omega)], by rw [Zdu j (by have := HLO.out; omega)], ⟨by rw [HD2.out, HST.out, hbb]; simp; rfl⟩, by rw [List.length_set]; exact hyx, (by exact HP.1), hK3, hB3⟩
            case measure => rw [Zdu j (by have := HLO.out; omega)]; simp [intOf]; omega
        · subst heq2
          have q2 := eq_false (show ¬ ((own.length : Int) < (own.length : Int)) by omega)
          go_wp2
          go_roundw
          case rel => exact ⟨i + 1, y, by omega, by go_num, ⟨by rw [HD2.out]; simp [putGo]⟩, hyx, hR, hK, hB⟩
          case measure => simp [intOf]; omega
    · subst heq
      have hnl := eq_false (show ¬ ((S.length : Int) < (S.length : Int)) by omega)
      have bO := Zcv HBO.out hK (by omega)
      have bR := Zcv HBR.out hK (by omega)
      have hz0 : wr.cell? ⟨w1.heap.size, 0, none⟩ = some (.int .i64 r1) := (Zah bO 0).trans rfl
      have hz1 : wr.cell? ⟨w1.heap.size, 1, none⟩ = some (.int .i64 r2) := (Zah bO 1).trans rfl
      have hz2 : wr.cell? ⟨w1.heap.size, 2, none⟩ = some (.slice (some ⟨g, 0, none⟩) x0.length c) := (Zah bO 2).trans rfl
      have hy0 : wr.cell? ⟨w.heap.size + 1, 0, none⟩ = some (.int .i64 0) := (Zah bR 0).trans rfl
      have hy1 : wr.cell? ⟨w.heap.size + 1, 1, none⟩ = some (.int .i64 0) := (Zah bR 1).trans rfl
      have hy2 : wr.cell? ⟨w.heap.size + 1, 2, none⟩ = some (.slice none 0 0) := (Zah bR 2).trans rfl
      have hf0 := Zae bR 0
      have hf1 := Zae bR 1
      have hf2 := Zae bR 2
      go_wp2
      refine bodyPost_ret (results_cell_row rfl _ _ (w.heap.size + 1) 52 #[.int .i64 r1, .int .i64 r2, .slice (some ⟨g, 0, none⟩) x0.length c] (0, 0) _ rfl ?_ Tryz.underlying52 rfl (by kernel_rfl)) rfl ?_
      · refine Zav (cs := #[.int .i64 r1, .int .i64 r2, .slice none 0 0]) ?_ 2 _ rfl
        refine Zav (cs := #[.int .i64 r1, .int .i64 0, .slice none 0 0]) ?_ 1 _ rfl
        exact Zav (cs := #[.int .i64 0, .int .i64 0, .slice none 0 0]) bR 0 _ rfl
      · have hxe : putS l0_2 S x0 = x := by rw [HD.out, List.drop_length]; rfl
        rw [hxe]
        have hne : ∀ k, some k = (Value.slice (some ⟨g, 0, none⟩) x0.length c).ownBlock → k ≠ w.heap.size + 1 := fun k hk => by
          simp [Value.ownBlock] at hk; omega
        exact ⟨_, rfl, Kd.R_mono (Kd.R_far (p := ⟨w.heap.size + 1, 2, none⟩) (Kd.R_far (p := ⟨w.heap.size + 1, 1, none⟩) (Kd.R_far (p := ⟨w.heap.size + 1, 0, none⟩) hR hne _) hne _) hne _) (fun _ _ => trivial), ((hB.setCell (Nat.le_succ _) _).setCell (Nat.le_succ _) _).setCell (Nat.le_succ _) _⟩
def runGo (k : Nat) (word : ByteArray) : Nat → Nat → Int → Int → List Int → Option (Int × Int × List Int)
 | _, 0, a0, a1, l => some (a0, a1, l)
 | i, m + 1, a0, a1, l => (Zbq.f k (word.extract i (i + 1))).bind fun d => (Zde.f k a0 a1 l d).bind fun r => runGo k word (i + 1) m r.1 r.2.1 r.2.2
def Zdi.f (k : Nat) (a0_0 a0_1 : Int) (l0_2 : List Int) (a1 : ByteArray) : Option (Int × Int × List Int) := if a1.size < 1000000 then runGo k a1 0 a1.size a0_0 a0_1 l0_2 else none
theorem C_box {W W' : World} {A : Option Addr} {xs : List Int} {b : Nat} (h : Kd.C (Kd.int .u8) W A xs.length xs) (hk : Zc1 W W' b none) (hf : ∀ ad, A = some ad → 0 < xs.length → ad.block ≠ b) : Kd.C (Kd.int .u8) W' A xs.length xs := Kd.C_keep 0 h hk hf
set_option maxHeartbeats 1000000 in
set_option maxRecDepth 100000 in
theorem Zdi.calls (k : Nat) (a0_0 : Int) (a0_1 : Int) (A0_2 : Option Addr) (c0_2 : Nat) (l0_2 : List Int) (a1 : ByteArray) (r1 : Int) (r2 : Int) (r3 : List Int) (w : World) (hr0_2 : Kd.C (Kd.int .u8) w A0_2 l0_2.length l0_2) (hc0_2 : l0_2.length ≤ c0_2) (h : Zdi.f k a0_0 a0_1 l0_2 a1 = some (r1, r2, r3)) :
  Calls Tryz.prog 90 #[.agg #[.int .i64 a0_0, .int .i64 a0_1, .slice A0_2 l0_2.length c0_2], .string a1] w fun e w' => ∃ (A : Option Addr) (c : Nat), e = .returned (.agg #[.int .i64 r1, .int .i64 r2, .slice A r3.length c]) ∧ r3.length ≤ c ∧ Kd.C (Kd.int .u8) w' A r3.length r3 ∧ ((A = A0_2 ∧ r3 = l0_2) ∨ ∀ ad, A = some ad → 0 < r3.length → w.heap.size ≤ ad.block) ∧ Below w.heap.size w w' := by
 unfold Zdi.f at h
 split at h
 case isFalse => cases h
 rename_i hsz
 have HG := Zad.mk h
 clear h
 go_enter Tryz.func90, Tryz.ntmps90
 go_wp2
 have e0 : ((w.alloc (.cells #[.int .i64 a0_0, .int .i64 a0_1, .slice A0_2 l0_2.length c0_2] 52)).alloc (.cells #[.int .i64 0, .int .i64 0, .slice none 0 0] 52)).heap.size = w.heap.size + 2 := by simp
 obtain ⟨w1, hw1⟩ : ∃ w1, (w.alloc (.cells #[.int .i64 a0_0, .int .i64 a0_1, .slice A0_2 l0_2.length c0_2] 52)).alloc (.cells #[.int .i64 0, .int .i64 0, .slice none 0 0] 52) = w1 := ⟨_, rfl⟩
 have BT : w1.heap[w.heap.size]? = some (.cells #[.int .i64 a0_0, .int .i64 a0_1, .slice A0_2 l0_2.length c0_2] 52 (0, 0)) := by
  rw [← hw1, Below.heap_alloc _ _ _ (by simp)]
  simpa using heap_alloc_new w _
 have BR : w1.heap[w.heap.size + 1]? = some (.cells #[.int .i64 0, .int .i64 0, .slice none 0 0] 52 (0, 0)) := by
  rw [← hw1]
  have := heap_alloc_new (w.alloc (.cells #[.int .i64 a0_0, .int .i64 a0_1, .slice A0_2 l0_2.length c0_2] 52)) (.cells #[.int .i64 0, .int .i64 0, .slice none 0 0] 52)
  simpa using this
 have hB1 : Below w.heap.size w w1 := by rw [← hw1]; exact ((Below.refl _ _).alloc (Nat.le_refl _) _).alloc (by simp) _
 have hC1 : Kd.C (Kd.int .u8) w1 A0_2 l0_2.length l0_2 := Kd.C_below hr0_2 hB1
 rw [hw1]
 have HSZ := Zad.mk hsz
 clear hw1 e0 hsz
 go_loopw [5] (fun v5 wr => ∃ (i m : Nat) (p1 p2 : Int) (A : Option Addr) (c : Nat) (l : List Int), i + m = a1.size ∧ v5 = .int .i64 i ∧ Zad (runGo k a1 i m p1 p2 l = some (r1, r2, r3)) ∧ wr.heap[w.heap.size]? = some (.cells #[.int .i64 p1, .int .i64 p2, .slice A l.length c] 52 (0, 0)) ∧ wr.heap[w.heap.size + 1]? = some (.cells #[.int .i64 0, .int .i64 0, .slice none 0 0] 52 (0, 0)) ∧ l.length ≤ c ∧ Kd.C (Kd.int .u8) wr A l.length l ∧ ((A = A0_2 ∧ l = l0_2) ∨ ∀ ad, A = some ad → 0 < l.length → w.heap.size + 2 ≤ ad.block) ∧ Below w.heap.size w wr)
  (fun v5 _ => a1.size - (intOf v5).toNat)
 case atStart => exact ⟨0, a1.size, a0_0, a0_1, A0_2, c0_2, l0_2, by omega, rfl, HG, BT, BR, hc0_2, hC1, .inl ⟨rfl, rfl⟩, hB1⟩
 case round =>
  clear BT BR hB1 hC1
  obtain ⟨i, m, p1, p2, A, c, l, him, rfl, HGo, BT, BR, hlc, hC, hA, hB⟩ := hrel
  have hz0 : wr.cell? ⟨w.heap.size, 0, none⟩ = some (.int .i64 p1) := (Zah BT 0).trans rfl
  have hz1 : wr.cell? ⟨w.heap.size, 1, none⟩ = some (.int .i64 p2) := (Zah BT 1).trans rfl
  have hz2 : wr.cell? ⟨w.heap.size, 2, none⟩ = some (.slice A l.length c) := (Zah BT 2).trans rfl
  cases m with
  | zero =>
   have q1 := eq_false (show ¬ ((i : Int) < (a1.size : Int)) by omega)
   have hy0 : wr.cell? ⟨w.heap.size + 1, 0, none⟩ = some (.int .i64 0) := (Zah BR 0).trans rfl
   have hy1 : wr.cell? ⟨w.heap.size + 1, 1, none⟩ = some (.int .i64 0) := (Zah BR 1).trans rfl
   have hy2 : wr.cell? ⟨w.heap.size + 1, 2, none⟩ = some (.slice none 0 0) := (Zah BR 2).trans rfl
   have hf0 := Zae BR 0
   have hf1 := Zae BR 1
   have hf2 := Zae BR 2
   have hgo := HGo.out
   simp only [runGo, Option.some.injEq, Prod.mk.injEq] at hgo
   obtain ⟨rfl, rfl, rfl⟩ := hgo
   go_wp2
   refine bodyPost_ret (results_cell_row rfl _ _ (w.heap.size + 1) 52 #[.int .i64 p1, .int .i64 p2, .slice A l.length c] (0, 0) _ rfl ?_ Tryz.underlying52 rfl (by kernel_rfl)) rfl ?_
   ·refine Zav (cs := #[.int .i64 p1, .int .i64 p2, .slice none 0 0]) ?_ 2 _ rfl
    refine Zav (cs := #[.int .i64 p1, .int .i64 0, .slice none 0 0]) ?_ 1 _ rfl
    exact Zav (cs := #[.int .i64 0, .int .i64 0, .slice none 0 0]) BR 0 _ rfl
   ·have hne : ∀ ad, A = some ad → 0 < l.length → ad.block ≠ w.heap.size + 1 := by
     intro ad had hl
     rcases hA with ⟨h1, h2⟩ | h1
     ·subst h1 h2 had
      have := Kd.C_lt hr0_2 hl (by decide)
      omega
     ·have := h1 ad had hl; omega
    have hK : Zc1 wr (((wr.setCell ⟨w.heap.size + 1, 0, none⟩ (.int .i64 p1)).setCell ⟨w.heap.size + 1, 1, none⟩ (.int .i64 p2)).setCell ⟨w.heap.size + 1, 2, none⟩ (.slice A l.length c)) (w.heap.size + 1) none := (((Zc1.refl wr _ _).set_ 0 _).set_ 1 _).set_ 2 _
    refine ⟨A, c, rfl, hlc, C_box hC hK hne, ?_, ((hB.setCell (Nat.le_succ _) _).setCell (Nat.le_succ _) _).setCell (Nat.le_succ _) _⟩
    rcases hA with h1 | h1
    ·exact .inl h1
    ·exact .inr fun ad had hl => by have := h1 ad had hl; omega
  | succ m =>
   have q1 := eq_true (show (i : Int) < (a1.size : Int) by omega)
   have hgo := HGo.out
   simp only [runGo] at hgo
   obtain ⟨d, hd, hgo⟩ := Option.bind_eq_some_iff.mp hgo
   obtain ⟨⟨n1, n2, l2⟩, ht, hgo⟩ := Option.bind_eq_some_iff.mp hgo
   have hw : wrap64 ((i : Int) + 1) = ((i + 1 : Nat) : Int) := by have := HSZ.out; unfold wrap64; omega
   have q2 := eq_true (show (0 : Int) ≤ (i : Int) by omega)
   have r3_ : (i : Int) ≤ wrap64 ((i : Int) + 1) := by rw [hw]; omega
   have r4_ : wrap64 ((i : Int) + 1) ≤ (a1.size : Int) := by rw [hw]; omega
   have q3 := eq_true r3_
   have q4 := eq_true r4_
   have hwi : IntKind.i64.wrap ((i : Int) + 1) = ((i + 1 : Nat) : Int) := (i64_w _).trans hw
   have hd2 : Zbq.f k (a1.extract i (IntKind.i64.wrap ((i : Int) + 1)).toNat) = some d := by rw [hwi, Int.toNat_natCast]; exact hd
   have q5 := eq_true (show (0 : Int) ≤ IntKind.i64.wrap ((i : Int) + 1) by rw [hwi]; omega)
   have q6 := eq_true (show (i : Int) ≤ IntKind.i64.wrap ((i : Int) + 1) by rw [hwi]; omega)
   have q7 := eq_true (show IntKind.i64.wrap ((i : Int) + 1) ≤ (a1.size : Int) by rw [hwi]; omega)
   have HD := Zad.mk hd2
   have HT := Zad.mk ht
   have HGN := Zad.mk hgo
   have HW := Zad.mk hw
   clear hd hd2 ht hgo hw hwi HGo
   go_wp2
   go_region_with (first
    | (go_at_call 78; go_must (refine (Zbq.calls k _ d _ HD.out).mono ?_; rintro e w2 ⟨rfl, ⟨nd, rfl⟩⟩))
    | (go_at_call 65; go_must (refine (Zde.calls k p1 p2 A c l d n1 n2 l2 _ ?_ hlc HT.out).mono ?_; exact Kd.C_drewN hC _; rintro e w2 ⟨v2, rfl, hR2, hb2⟩; obtain ⟨A2, c2, rfl⟩ := Kd.R_slice hR2; have hb3 : Below wr.heap.size wr w2 := (Zaa (Below.refl _ _) _).trans (hb2.mono (Nat.le_refl _)); have hszr : w.heap.size + 1 < wr.heap.size := (Array.getElem?_eq_some_iff.1 BR).1; have BT2 := (hb3.block _ (show w.heap.size < wr.heap.size by omega)).trans BT; have y0 : w2.cell? ⟨w.heap.size, 0, none⟩ = some (.int .i64 p1) := (Zah BT2 0).trans rfl; have y1 : w2.cell? ⟨w.heap.size, 1, none⟩ = some (.int .i64 p2) := (Zah BT2 1).trans rfl; have y2 : w2.cell? ⟨w.heap.size, 2, none⟩ = some (.slice A l.length c) := (Zah BT2 2).trans rfl; have f0 := Zae BT2 0; have f1 := Zae BT2 1; have f2 := Zae BT2 2)))
   all_goals
    have BR2 := (hb3.block _ hszr).trans BR
    have hR3 := Kd.R_reads' hR2
    have hne : ∀ ad, A2 = some ad → 0 < l2.length → w.heap.size + 2 ≤ ad.block := by
     intro ad had hl
     obtain ⟨g, cap, eg, hgb, _⟩ := Kd.R_form hR2 hl
     injection eg with eg _ _
     rw [had] at eg
     injection eg with eg
     subst eg
     have : wr.heap.size ≤ g := hgb
     show w.heap.size + 2 ≤ g
     omega
    have hK : Zc1 w2 (((w2.setCell ⟨w.heap.size, 0, none⟩ (.int .i64 n1)).setCell ⟨w.heap.size, 1, none⟩ (.int .i64 n2)).setCell ⟨w.heap.size, 2, none⟩ (.slice A2 l2.length c2)) w.heap.size none := (((Zc1.refl w2 _ _).set_ 0 _).set_ 1 _).set_ 2 _
    have hC2 := C_box hR3.2.2 hK (fun ad had hl => by have := hne ad had hl; omega)
    have BT3 : (((w2.setCell ⟨w.heap.size, 0, none⟩ (.int .i64 n1)).setCell ⟨w.heap.size, 1, none⟩ (.int .i64 n2)).setCell ⟨w.heap.size, 2, none⟩ (.slice A2 l2.length c2)).heap[w.heap.size]? = some (.cells #[.int .i64 n1, .int .i64 n2, .slice A2 l2.length c2] 52 (0, 0)) := by
     refine Zav (cs := #[.int .i64 n1, .int .i64 n2, .slice A l.length c]) ?_ 2 _ rfl
     refine Zav (cs := #[.int .i64 n1, .int .i64 p2, .slice A l.length c]) ?_ 1 _ rfl
     exact Zav (cs := #[.int .i64 p1, .int .i64 p2, .slice A l.length c]) BT2 0 _ rfl
    have hsz2 := hb3.size
    have BR3 := (hK.2 (w.heap.size + 1) (by omega) (by omega) (by simp)).trans BR2
    have hB2 : Below w.heap.size w w2 := hB.trans (hb3.mono (by omega))
    go_wp2
    go_roundw
    case rel => exact ⟨i + 1, m, n1, n2, A2, c2, l2, by omega, by rw [HW.out], HGN, BT3, BR3, hR3.2.1, hC2, .inr hne, ((hB2.setCell (Nat.le_refl _) _).setCell (Nat.le_refl _) _).setCell (Nat.le_refl _) _⟩
    case measure => rw [HW.out]; simp only [intOf]; omega
mutual
def Zau.j0 : Nat → ByteArray → ByteArray → Int → Int → Option (List ByteArray)
 | 0, _, _, _, _ => none
 | k + 1, x0, x1, x2, x3 => if 0 ≤ (mn x3 (wrap64 ((x0.size : Int) + 1))) then (if (mn x3 (wrap64 ((x0.size : Int) + 1)) : Int).toNat ≤ 17592186044416 then (Zau.l0 k x0 x1 x2 (wrap64 ((mn x3 (wrap64 ((x0.size : Int) + 1))) - 1)) (List.replicate (mn x3 (wrap64 ((x0.size : Int) + 1)) : Int).toNat (⟨#[]⟩ : ByteArray)) 0) else (none)) else (none)
def Zau.l0 : Nat → ByteArray → ByteArray → Int → Int → List ByteArray → Int → Option (List ByteArray)
 | 0, _, _, _, _, _, _ => none
 | k + 1, x0, x1, x2, x3, x9, x10 => if x10 < x3 then ((Zcw.f x0 x1).bind fun t108 => (if t108 < 0 then (if 0 ≤ x10 then (if x10 < (x9.length : Int) then (if 0 ≤ (wrap64 (x10 + 1)) then (if (wrap64 (x10 + 1)) ≤ (x9.length : Int) then (some ((x9.set (x10 : Int).toNat x0).take ((wrap64 (x10 + 1)) : Int).toNat)) else (none)) else (none)) else (none)) else (none)) else (if 0 ≤ (wrap64 (t108 + x2)) then (if (wrap64 (t108 + x2)) ≤ (x0.size : Int) then (if 0 ≤ x10 then (if x10 < (x9.length : Int) then (if 0 ≤ (wrap64 (t108 + (x1.size : Int))) then (if (wrap64 (t108 + (x1.size : Int))) ≤ (x0.size : Int) then (Zau.l0 k (x0.extract ((wrap64 (t108 + (x1.size : Int))) : Int).toNat x0.size) x1 x2 x3 (x9.set (x10 : Int).toNat (x0.extract 0 ((wrap64 (t108 + x2)) : Int).toNat)) (wrap64 (x10 + 1))) else (none)) else (none)) else (none)) else (none)) else (none)) else (none)))) else (if 0 ≤ x10 then (if x10 < (x9.length : Int) then (if 0 ≤ (wrap64 (x10 + 1)) then (if (wrap64 (x10 + 1)) ≤ (x9.length : Int) then (some ((x9.set (x10 : Int).toNat x0).take ((wrap64 (x10 + 1)) : Int).toNat)) else (none)) else (none)) else (none)) else (none))
end
def Zau.f (k : Nat) (a0 : ByteArray) (a1 : ByteArray) (a2 : Int) (a3 : Int) : Option (List ByteArray) := if a3 = 0 then (some ([] : List ByteArray)) else (if a1.toList = ([] : List UInt8) then ((Zc4.f a0 a3).bind fun t101 => (some t101)) else (if a3 < 0 then ((Zb9.f a0 a1).bind fun t104 => (Zau.j0 k a0 a1 a2 (wrap64 (t104 + 1)))) else (Zau.j0 k a0 a1 a2 a3)))
set_option maxHeartbeats 8000000 in
set_option maxRecDepth 100000 in
theorem Zau.calls (k : Nat) (a0 : ByteArray) (a1 : ByteArray) (a2 : Int) (a3 : Int) (r : List ByteArray) (w : World) (h : Zau.f k a0 a1 a2 a3 = some r) :
  Calls Tryz.prog 156 #[.string a0, .string a1, .int .i64 a2, .int .i64 a3] w fun e w' => ∃ v0_ : Value, e = .returned (v0_) ∧ Kd.R Kd.string 9 w' w.heap.size (fun _ => True) v0_ r ∧ Below w.heap.size w w' := by
 have HB := Zad.mk (Below.refl w.heap.size w)
 have H : (if a3 = 0 then (some ([] : List ByteArray)) else (if a1.toList = ([] : List UInt8) then ((Zc4.f a0 a3).bind fun t101 => (some t101)) else (if a3 < 0 then ((Zb9.f a0 a1).bind fun t104 => (Zau.j0 k a0 a1 a2 (wrap64 (t104 + 1)))) else (Zau.j0 k a0 a1 a2 a3)))) = some r := h
 clear h
 by_cases c5 : a3 = 0
 ·rw [if_pos c5] at H
  have c5b0 : (a3 == 0) = true := beq_iff_eq.mpr c5
  have c5b1 : (a3 != 0) = false := bne_eq_false_iff_eq.mpr c5
  clear c5
  obtain rfl := Option.some.inj H
  go_enter Tryz.func156, Tryz.ntmps156
  go_wp2
  go_ret
  exact ⟨_, by first | rfl | (simp [Zap, Zao] <;> rfl) | (simp [*, Zap, Zao] <;> rfl), by first | exact Kd.R_nil _ _ _ _ _ | exact Kd.N_nil _ _ _ _ _ | exact Kd.V_nil _ _ _ _ _ | exact Kd.Q_nil _ _ _ _ _ | exact Kd.S_nil _ _ _ _ _, by repeat (first | (with_reducible first | exact HB.out | apply Zac | apply Zaa | apply Zab) | exact HB.out)⟩
 ·rw [if_neg c5] at H
  have c5b0 : (a3 == 0) = false := beq_eq_false_iff_ne.mpr c5
  have c5b1 : (a3 != 0) = true := bne_iff_ne.mpr c5
  by_cases c6 : a1.toList = ([] : List UInt8)
  ·rw [if_pos c6] at H
   have c6b0 : (a1.toList == ([] : List UInt8)) = true := beq_iff_eq.mpr c6
   have c6b1 : (a1.toList != ([] : List UInt8)) = false := bne_eq_false_iff_eq.mpr c6
   clear c6
   replace H := Option.bind_eq_some_iff.mp H
   obtain ⟨t101, A70, H⟩ := H
   replace H : (some t101) = some r := H
   have A7 := Zad.mk A70
   clear A70
   obtain rfl := Option.some.inj H
   go_enter Tryz.func156, Tryz.ntmps156
   go_wp2_with (first | ((with_reducible refine Zas (f := 189) rfl ?_); refine Zbg (some 18) rfl rfl Tryz.func189 (by kernel_rfl) rfl #[.string a0, .int .i64 a3] rfl (by (try simp only [List.map_toArray, List.map_cons, List.map_nil]); first | done | rfl | (simp only [List.length_drop, List.length_take]; rfl)) ?_; (with_reducible refine (Zc4.calls a0 a3 t101 _ A7.out).mono ?_); rintro e w8 ⟨v102, rfl, ho0, hb⟩; refine ⟨_, rfl, ?_⟩; have n0_ := Zad.mk (Kd.R_lower ho0 (Zak (by with_reducible repeat first | exact HB.out | apply Zac | apply Zaa | apply Zab))); have n1_ := Zad.mk (Zal (by with_reducible repeat first | exact HB.out | apply Zac | apply Zaa | apply Zab) hb); clear HB; have HO103 := n0_; have HB := n1_))
   go_ret
   exact ⟨_, by first | rfl | (simp [Zap, Zao] <;> rfl) | (simp [*, Zap, Zao] <;> rfl), by (with_reducible repeat (first | apply Kd.R_alloc | apply Kd.R_drewN | apply Kd.R_drew)); exact HO103.out, by repeat (first | (with_reducible first | exact HB.out | apply Zac | apply Zaa | apply Zab) | exact HB.out)⟩
  ·rw [if_neg c6] at H
   have c6b0 : (a1.toList == ([] : List UInt8)) = false := beq_eq_false_iff_ne.mpr c6
   have c6b1 : (a1.toList != ([] : List UInt8)) = true := bne_iff_ne.mpr c6
   have HC9 := Zad.mk H
   clear H
   go_enter Tryz.func156, Tryz.ntmps156
   go_upto_if 20 with (fail)
   go_cut [3] (fun v3 wc => ∃ (kq : Nat) (x3_8 : Int), v3 = .int .i64 x3_8 ∧ Zad (Zau.j0 kq a0 a1 a2 x3_8 = some r) ∧ Zad (kq ≤ k) ∧ Zad (Below w.heap.size w wc))
   case first =>
    have H := HC9.out
    clear HC9
    by_cases c10 : a3 < 0
    ·rw [if_pos c10] at H
     have c10b0 : decide (a3 < 0) = true := decide_eq_true c10
     clear c10
     (first | rw [c10b0] | (simp only [i64_w, i32_w]; rw [c10b0]) | skip)
     replace H := Option.bind_eq_some_iff.mp H
     obtain ⟨t104, A110, H⟩ := H
     replace H : (Zau.j0 k a0 a1 a2 (wrap64 (t104 + 1))) = some r := H
     have A11 := Zad.mk A110
     clear A110
     have H' := Zad.mk H
     clear H
     go_wp2_with (first | ((with_reducible refine Zas (f := 82) rfl ?_); refine Zbg (some 23) rfl rfl Tryz.func82 (by kernel_rfl) rfl #[.string a0, .string a1] rfl (by (try simp only [List.map_toArray, List.map_cons, List.map_nil]); first | done | rfl | (simp only [List.length_drop, List.length_take]; rfl)) ?_; (with_reducible refine (Zb9.calls a0 a1 t104 _ A11.out).mono ?_); rintro e w12 ⟨rfl, hb⟩; refine ⟨_, rfl, ?_⟩; have n0_ := Zad.mk (Zal (by with_reducible repeat first | exact HB.out | apply Zac | apply Zaa | apply Zab) hb); clear HB; have HB := n0_))
     go_meet
     case rel => exact ⟨_, (wrap64 (t104 + 1)), (by first | rfl | (simp; done) | (simp [*]; done)), H', ⟨by first | omega | exact Nat.le_refl _⟩, ⟨by with_reducible repeat first | exact HB.out | apply Zac | apply Zaa | apply Zab⟩⟩
    ·rw [if_neg c10] at H
     have c10b0 : decide (a3 < 0) = false := decide_eq_false c10
     clear c10
     (first | rw [c10b0] | (simp only [i64_w, i32_w]; rw [c10b0]) | skip)
     have H' := Zad.mk H
     clear H
     go_wp2
     go_meet
     case rel => exact ⟨_, (a3), (by first | rfl | (simp; done) | (simp [*]; done)), H', ⟨by first | omega | exact Nat.le_refl _⟩, ⟨by with_reducible repeat first | exact HB.out | apply Zac | apply Zaa | apply Zab⟩⟩
   case rest =>
    clear HC9
    obtain ⟨kq, x3_8, rfl, HA, HJ8, HB⟩ := hcut
    cases kq with
    | zero => exact absurd HA.out (by simp [Zau.j0])
    | succ kj8 =>
     have H := HA.out
     clear HA
     simp only [Zau.j0] at H
     obtain ⟨ji13, hji13⟩ : ∃ j_ : Int, (mn x3_8 (wrap64 ((a0.size : Int) + 1))) = j_ := ⟨_, rfl⟩
     replace H : (if 0 ≤ (ji13) then (if (ji13 : Int).toNat ≤ 17592186044416 then (Zau.l0 kj8 a0 a1 a2 (wrap64 ((ji13) - 1)) (List.replicate (ji13 : Int).toNat (⟨#[]⟩ : ByteArray)) 0) else (none)) else (none)) = some r := by first | (rw [hji13] at H; exact H) | (simp only [hji13] at H ⊢; exact H)
     have hji13_ : (if (wrap64 ((a0.size : Int) + 1)) < x3_8 then (wrap64 ((a0.size : Int) + 1)) else x3_8) = ji13 := hji13
     by_cases c14 : 0 ≤ (ji13)
     ·rw [if_pos c14] at H
      have c14b0 := eq_true c14
      have c14b1 : decide (0 ≤ (ji13)) = true := decide_eq_true c14
      clear c14
      by_cases c15 : (ji13 : Int).toNat ≤ 17592186044416
      ·rw [if_pos c15] at H
       have c15b0 := eq_true c15
       have c15b1 : decide ((ji13 : Int).toNat ≤ 17592186044416) = true := decide_eq_true c15
       clear c15
       obtain ⟨y105, hy105⟩ : ∃ y_ : List ByteArray, y_ = (List.replicate (ji13 : Int).toNat (⟨#[]⟩ : ByteArray)) := ⟨_, rfl⟩
       replace H : (Zau.l0 kj8 a0 a1 a2 (wrap64 ((ji13) - 1)) y105 0) = some r := by first | (rw [hy105]; with_reducible exact H) | (have H2_ := (Option.bind_some _ _).symm.trans H; rw [hy105]; with_reducible exact H2_) | (have H2_ := (Option.bind_some _ _).symm.trans H; with_reducible exact H2_) | with_reducible exact H | (rw [hy105]; exact H) | exact H
       have Ny105 := Zad.mk hy105
       clear hy105
       have H' := Zad.mk H
       clear H
       go_wp2_with (first | ((with_reducible refine Zaz (N := 31) rfl ?_); refine Kd.R_make Kd.string _ 9 rfl (N := 31) rfl 22 _ _ rfl ji13 rfl rfl Tryz.underlying22 (.string ⟨#[]⟩) 16 info9 rfl (by decide) (by omega) (⟨#[]⟩ : ByteArray) (ok := fun _ => True) (okp := fun _ => True) rfl (fun _ hk => hk) trivial (of_decide_eq_true (by first | (with_reducible assumption) | assumption)) (Nat.le_trans (Nat.mul_le_mul_right _ (of_decide_eq_true (by first | (with_reducible assumption) | assumption) : ji13.toNat ≤ 17592186044416)) (by omega)) (Below.refl _ _) (Nat.le_refl _) ?_; intro v106 w16 ho17 hb hg_ hnew_; clear hg_ hnew_; (first | rw [← Ny105.out] at ho17 | (simp only [Int.reduceToNat] at ho17; rw [← Ny105.out] at ho17)); have n0_ := Zad.mk (Kd.R_lower ho17 (Zak (by with_reducible repeat first | exact HB.out | apply Zac | apply Zaa | apply Zab))); have n1_ := Zad.mk (Zal (by with_reducible repeat first | exact HB.out | apply Zac | apply Zaa | apply Zab) hb); clear HB; have HO107 := n0_; have HB := n1_; clear hb ho17))
       go_loopg [0, 10] kj8 (fun kq v0 v10 w' => ∃ (x0_2 : ByteArray) (x9_2 : List ByteArray) (x10_2 : Int), v0 = .string x0_2 ∧ v10 = .int .i64 x10_2 ∧ Zad (Zau.l0 kq x0_2 a1 a2 (wrap64 ((ji13) - 1)) x9_2 x10_2 = some r) ∧ Zad (kq ≤ kj8) ∧ Zad (Kd.R Kd.string 9 w' w.heap.size (fun _ => True) v106 x9_2) ∧ Zad (Below w.heap.size w w'))
       case atStart => exact ⟨(a0), (y105), (0), (by first | rfl | (simp; done) | (simp [*]; done)), (by first | rfl | (simp; done) | (simp [*]; done)), H', ⟨Nat.le_refl _⟩, ⟨by (with_reducible repeat (first | apply Kd.R_alloc | apply Kd.R_drewN | apply Kd.R_drew)); exact HO107.out⟩, ⟨by with_reducible repeat first | exact HB.out | apply Zac | apply Zaa | apply Zab⟩⟩
       case round =>
        clear H'
        obtain ⟨x0_2, x9_2, x10_2, rfl, rfl, HA, HK2, HO_9, HB⟩ := hrel
        cases gk with
        | zero => exact absurd HA.out (by simp [Zau.l0])
        | succ k2 =>
         have H := HA.out
         clear HA
         simp only [Zau.l0] at H
         by_cases c18 : x10_2 < (wrap64 ((ji13) - 1))
         ·rw [if_pos c18] at H
          have c18b0 : decide (x10_2 < (wrap64 ((ji13) - 1))) = true := decide_eq_true c18
          clear c18
          replace H := Option.bind_eq_some_iff.mp H
          obtain ⟨t108, A190, H⟩ := H
          replace H : (if t108 < 0 then (if 0 ≤ x10_2 then (if x10_2 < (x9_2.length : Int) then (if 0 ≤ (wrap64 (x10_2 + 1)) then (if (wrap64 (x10_2 + 1)) ≤ (x9_2.length : Int) then (some ((x9_2.set (x10_2 : Int).toNat x0_2).take ((wrap64 (x10_2 + 1)) : Int).toNat)) else (none)) else (none)) else (none)) else (none)) else (if 0 ≤ (wrap64 (t108 + a2)) then (if (wrap64 (t108 + a2)) ≤ (x0_2.size : Int) then (if 0 ≤ x10_2 then (if x10_2 < (x9_2.length : Int) then (if 0 ≤ (wrap64 (t108 + (a1.size : Int))) then (if (wrap64 (t108 + (a1.size : Int))) ≤ (x0_2.size : Int) then (Zau.l0 k2 (x0_2.extract ((wrap64 (t108 + (a1.size : Int))) : Int).toNat x0_2.size) a1 a2 (wrap64 ((ji13) - 1)) (x9_2.set (x10_2 : Int).toNat (x0_2.extract 0 ((wrap64 (t108 + a2)) : Int).toNat)) (wrap64 (x10_2 + 1))) else (none)) else (none)) else (none)) else (none)) else (none)) else (none))) = some r := H
          have A19 := Zad.mk A190
          clear A190
          by_cases c20 : t108 < 0
          ·rw [if_pos c20] at H
           have c20b0 : decide (t108 < 0) = true := decide_eq_true c20
           clear c20
           by_cases c21 : 0 ≤ x10_2
           ·rw [if_pos c21] at H
            have c21b0 : decide (0 ≤ x10_2) = true := decide_eq_true c21
            clear c21
            by_cases c22 : x10_2 < (x9_2.length : Int)
            ·rw [if_pos c22] at H
             have c22b0 : decide (x10_2 < (x9_2.length : Int)) = true := decide_eq_true c22
             clear c22
             obtain ⟨y109, hy109⟩ : ∃ y_ : List ByteArray, y_ = (x9_2.set (x10_2 : Int).toNat x0_2) := ⟨_, rfl⟩
             replace H : (if 0 ≤ (wrap64 (x10_2 + 1)) then (if (wrap64 (x10_2 + 1)) ≤ (x9_2.length : Int) then (some (y109.take ((wrap64 (x10_2 + 1)) : Int).toNat)) else (none)) else (none)) = some r := by first | (rw [hy109]; with_reducible exact H) | (have H2_ := (Option.bind_some _ _).symm.trans H; rw [hy109]; with_reducible exact H2_) | (have H2_ := (Option.bind_some _ _).symm.trans H; with_reducible exact H2_) | with_reducible exact H | (rw [hy109]; exact H) | exact H
             have Ny109 := Zad.mk hy109
             clear hy109
             obtain ⟨ji24, hji24⟩ : ∃ j_ : Int, (wrap64 (x10_2 + 1)) = j_ := ⟨_, rfl⟩
             replace H : (if 0 ≤ (ji24) then (if (ji24) ≤ (x9_2.length : Int) then (some (y109.take ((ji24) : Int).toNat)) else (none)) else (none)) = some r := by first | (rw [hji24] at H; exact H) | (simp only [hji24] at H ⊢; exact H)
             (try rw [hji24] at A19)
             have hji24w : (IntKind.i64.wrap (x10_2 + 1)) = ji24 := (i64_w _).trans hji24
             by_cases c25 : 0 ≤ (ji24)
             ·rw [if_pos c25] at H
              have c25b0 := eq_true c25
              have c25b1 : decide (0 ≤ (ji24)) = true := decide_eq_true c25
              clear c25
              by_cases c26 : (ji24) ≤ (x9_2.length : Int)
              ·rw [if_pos c26] at H
               have c26b0 := eq_true c26
               have c26b1 : decide ((ji24) ≤ (x9_2.length : Int)) = true := decide_eq_true c26
               clear c26
               obtain ⟨y110, hy110⟩ : ∃ y_ : List ByteArray, y_ = (y109.take ((ji24) : Int).toNat) := ⟨_, rfl⟩
               replace H : (some y110) = some r := by first | (rw [hy110]; with_reducible exact H) | (have H2_ := (Option.bind_some _ _).symm.trans H; rw [hy110]; with_reducible exact H2_) | (have H2_ := (Option.bind_some _ _).symm.trans H; with_reducible exact H2_) | with_reducible exact H | (rw [hy110]; exact H) | exact H
               have Ny110 := Zad.mk hy110
               clear hy110
               obtain rfl := Option.some.inj H
               go_wp2_with (first | ((with_reducible refine Zas (f := 126) rfl ?_); refine Zbg (some 39) rfl rfl Tryz.func126 (by kernel_rfl) rfl #[.string x0_2, .string a1] rfl (by (try simp only [List.map_toArray, List.map_cons, List.map_nil]); first | done | rfl | (simp only [List.length_drop, List.length_take]; rfl)) ?_; (with_reducible refine (Zcw.calls x0_2 a1 t108 _ A19.out).mono ?_); rintro e w27 ⟨rfl, hb⟩; refine ⟨_, rfl, ?_⟩; have n0_ := Zad.mk (Kd.R_below (by (with_reducible repeat (first | apply Kd.R_alloc | apply Kd.R_drewN | apply Kd.R_drew)); exact HO_9.out) hb); have n1_ := Zad.mk (Zal (by with_reducible repeat first | exact HB.out | apply Zac | apply Zaa | apply Zab) hb); clear HO_9; clear HB; have HO_9 := n0_; have HB := n1_; have p23 : 0 ≤ (x10_2 : Int) := of_decide_eq_true (by first | (with_reducible assumption) | assumption); have q23 : (x10_2 : Int) < ((x9_2.length : Int) : Int) := of_decide_eq_true (by first | (with_reducible assumption) | assumption); obtain ⟨go23, co23, eo23, gb23, gl23, cl23, HG23⟩ := Kd.R_form HO_9.out (by omega); (first | cases eo23 | (injection eo23 with ea_ en_ ec_; (first | subst ea_ | (injection ea_ with ea_; subst ea_)); subst ec_; clear en_)); have GB23 := Zad.mk gb23; have GG23 := Zad.mk HG23; clear gb23 gl23 HG23; obtain ⟨hx23_0, hf23_0⟩ := Kd.R_celln (⟨#[]⟩ : ByteArray) HO_9.out (x10_2 : Int) p23 q23; replace p23 := eq_true p23; replace q23 := eq_true q23; obtain ⟨hy28_, hz28_⟩ := Kd.R_celln (⟨#[]⟩ : ByteArray) HO_9.out (x10_2 : Int) (of_decide_eq_true (by first | (with_reducible assumption) | assumption)) (of_decide_eq_true (by first | (with_reducible assumption) | assumption)); have HP28 := Kd.R_putg HO_9.out (x10_2 : Int) x0_2) | ((with_reducible refine Zd8 (t := 9) (p := 61) rfl ?_); refine Zds (t := 9) (p := 61) (v := ?vo_w29) (w1 := (w27.setCell ⟨go23, (x10_2 : Int).toNat, none⟩ (.string x0_2))) ?hg ?ho ?hn ?hr ?_; (case ho => rfl); (case hg => rfl); (case hn => rfl); (case hr => first | (go_simp; done) | (go_simp; rfl)); intro w29 hw; have hg : w27.grownBy w29 (some go23) := (by rw [hw]; exact HP28.2); have hp_ : Kd.R Kd.string 9 w29 w.heap.size (fun _ => True) (.slice (some ⟨go23, 0, none⟩) x9_2.length co23) y109 := (by rw [hw, Ny109.out]; exact HP28.1); clear HP28; have n0_ := Zad.mk (hp_); have n1_ := Zad.mk ((by rw [hw]; exact Zai (HB.out) GB23.out : Below w.heap.size w w29)); clear HO_9; clear HB; have HO_9 := n0_; have HB := n1_; clear hg hw hp_; have hlg30 : (y109.length : Int) = (x9_2.length : Int) := (by rw [Ny109.out]; simp only [List.length_set]); have q30 : ((ji24) : Int) ≤ ((x9_2.length : Int) : Int) := of_decide_eq_true (by first | (with_reducible assumption) | assumption); obtain ⟨i030, hi030, _, hsz30, _⟩ := info_parts info9; have hcut30 := Zg5 (P := Tryz.prog) 22 9 .i64 Tryz.underlying22 hi030 (some ⟨go23, 0, none⟩) x9_2.length co23 (ji24) (of_decide_eq_true (by first | (with_reducible assumption) | assumption)) q30 (Kd.R_reads' HO_9.out).2.1; have hr30 := Kd.R_take (m := ((ji24) : Int).toNat) HO_9.out (by omega); have hy30 : y110.length = ((ji24) : Int).toNat := (by rw [Ny110.out, List.length_take]; omega); rw [← Ny110.out] at hr30; rw [← hy30] at hr30 hcut30; clear hy30 hi030 hsz30 HO_9; have HO112 := Zad.mk hr30; clear hr30; replace q30 := eq_true q30))
               go_ret
               exact ⟨_, by first | rfl | (simp [Zap, Zao] <;> rfl) | (simp only [← hji13, ← hji24]; first | rfl | (simp [Zap, Zao] <;> rfl)) | (simp [*, Zap, Zao] <;> rfl), by (with_reducible repeat (first | apply Kd.R_alloc | apply Kd.R_drewN | apply Kd.R_drew)); exact HO112.out, by repeat (first | (with_reducible first | exact HB.out | apply Zac | apply Zaa | apply Zab) | exact HB.out)⟩
              ·rw [if_neg c26] at H
               exact absurd H (by simp)
             ·rw [if_neg c25] at H
              exact absurd H (by simp)
            ·rw [if_neg c22] at H
             exact absurd H (by simp)
           ·rw [if_neg c21] at H
            exact absurd H (by simp)
          ·rw [if_neg c20] at H
           have c20b0 : decide (t108 < 0) = false := decide_eq_false c20
           clear c20
           obtain ⟨ji31, hji31⟩ : ∃ j_ : Int, (wrap64 (t108 + a2)) = j_ := ⟨_, rfl⟩
           replace H : (if 0 ≤ (ji31) then (if (ji31) ≤ (x0_2.size : Int) then (if 0 ≤ x10_2 then (if x10_2 < (x9_2.length : Int) then (if 0 ≤ (wrap64 (t108 + (a1.size : Int))) then (if (wrap64 (t108 + (a1.size : Int))) ≤ (x0_2.size : Int) then (Zau.l0 k2 (x0_2.extract ((wrap64 (t108 + (a1.size : Int))) : Int).toNat x0_2.size) a1 a2 (wrap64 ((ji13) - 1)) (x9_2.set (x10_2 : Int).toNat (x0_2.extract 0 ((ji31) : Int).toNat)) (wrap64 (x10_2 + 1))) else (none)) else (none)) else (none)) else (none)) else (none)) else (none)) = some r := by first | (rw [hji31] at H; exact H) | (simp only [hji31] at H ⊢; exact H)
           (try rw [hji31] at A19)
           have hji31w : (IntKind.i64.wrap (t108 + a2)) = ji31 := (i64_w _).trans hji31
           by_cases c32 : 0 ≤ (ji31)
           ·rw [if_pos c32] at H
            have c32b0 := eq_true c32
            have c32b1 : decide (0 ≤ (ji31)) = true := decide_eq_true c32
            clear c32
            by_cases c33 : (ji31) ≤ (x0_2.size : Int)
            ·rw [if_pos c33] at H
             have c33b0 := eq_true c33
             have c33b1 : decide ((ji31) ≤ (x0_2.size : Int)) = true := decide_eq_true c33
             clear c33
             by_cases c34 : 0 ≤ x10_2
             ·rw [if_pos c34] at H
              have c34b0 : decide (0 ≤ x10_2) = true := decide_eq_true c34
              clear c34
              by_cases c35 : x10_2 < (x9_2.length : Int)
              ·rw [if_pos c35] at H
               have c35b0 : decide (x10_2 < (x9_2.length : Int)) = true := decide_eq_true c35
               clear c35
               obtain ⟨y113, hy113⟩ : ∃ y_ : List ByteArray, y_ = (x9_2.set (x10_2 : Int).toNat (x0_2.extract 0 ((ji31) : Int).toNat)) := ⟨_, rfl⟩
               replace H : (if 0 ≤ (wrap64 (t108 + (a1.size : Int))) then (if (wrap64 (t108 + (a1.size : Int))) ≤ (x0_2.size : Int) then (Zau.l0 k2 (x0_2.extract ((wrap64 (t108 + (a1.size : Int))) : Int).toNat x0_2.size) a1 a2 (wrap64 ((ji13) - 1)) y113 (wrap64 (x10_2 + 1))) else (none)) else (none)) = some r := by first | (rw [hy113]; with_reducible exact H) | (have H2_ := (Option.bind_some _ _).symm.trans H; rw [hy113]; with_reducible exact H2_) | (have H2_ := (Option.bind_some _ _).symm.trans H; with_reducible exact H2_) | with_reducible exact H | (rw [hy113]; exact H) | exact H
               have Ny113 := Zad.mk hy113
               clear hy113
               obtain ⟨ji37, hji37⟩ : ∃ j_ : Int, (wrap64 (t108 + (a1.size : Int))) = j_ := ⟨_, rfl⟩
               replace H : (if 0 ≤ (ji37) then (if (ji37) ≤ (x0_2.size : Int) then (Zau.l0 k2 (x0_2.extract ((ji37) : Int).toNat x0_2.size) a1 a2 (wrap64 ((ji13) - 1)) y113 (wrap64 (x10_2 + 1))) else (none)) else (none)) = some r := by first | (rw [hji37] at H; exact H) | (simp only [hji37] at H ⊢; exact H)
               (try rw [hji37] at A19)
               have hji37w : (IntKind.i64.wrap (t108 + (a1.size : Int))) = ji37 := (i64_w _).trans hji37
               by_cases c38 : 0 ≤ (ji37)
               ·rw [if_pos c38] at H
                have c38b0 := eq_true c38
                have c38b1 : decide (0 ≤ (ji37)) = true := decide_eq_true c38
                clear c38
                by_cases c39 : (ji37) ≤ (x0_2.size : Int)
                ·rw [if_pos c39] at H
                 have c39b0 := eq_true c39
                 have c39b1 : decide ((ji37) ≤ (x0_2.size : Int)) = true := decide_eq_true c39
                 clear c39
                 have H' := Zad.mk H
                 clear H
                 go_wp2_with (first | ((with_reducible refine Zas (f := 126) rfl ?_); refine Zbg (some 39) rfl rfl Tryz.func126 (by kernel_rfl) rfl #[.string x0_2, .string a1] rfl (by (try simp only [List.map_toArray, List.map_cons, List.map_nil]); first | done | rfl | (simp only [List.length_drop, List.length_take]; rfl)) ?_; (with_reducible refine (Zcw.calls x0_2 a1 t108 _ A19.out).mono ?_); rintro e w40 ⟨rfl, hb⟩; refine ⟨_, rfl, ?_⟩; have n0_ := Zad.mk (Kd.R_below (by (with_reducible repeat (first | apply Kd.R_alloc | apply Kd.R_drewN | apply Kd.R_drew)); exact HO_9.out) hb); have n1_ := Zad.mk (Zal (by with_reducible repeat first | exact HB.out | apply Zac | apply Zaa | apply Zab) hb); clear HO_9; clear HB; have HO_9 := n0_; have HB := n1_; have p36 : 0 ≤ (x10_2 : Int) := of_decide_eq_true (by first | (with_reducible assumption) | assumption); have q36 : (x10_2 : Int) < ((x9_2.length : Int) : Int) := of_decide_eq_true (by first | (with_reducible assumption) | assumption); obtain ⟨go36, co36, eo36, gb36, gl36, cl36, HG36⟩ := Kd.R_form HO_9.out (by omega); (first | cases eo36 | (injection eo36 with ea_ en_ ec_; (first | subst ea_ | (injection ea_ with ea_; subst ea_)); subst ec_; clear en_)); have GB36 := Zad.mk gb36; have GG36 := Zad.mk HG36; clear gb36 gl36 HG36; obtain ⟨hx36_0, hf36_0⟩ := Kd.R_celln (⟨#[]⟩ : ByteArray) HO_9.out (x10_2 : Int) p36 q36; replace p36 := eq_true p36; replace q36 := eq_true q36; obtain ⟨hy41_, hz41_⟩ := Kd.R_celln (⟨#[]⟩ : ByteArray) HO_9.out (x10_2 : Int) (of_decide_eq_true (by first | (with_reducible assumption) | assumption)) (of_decide_eq_true (by first | (with_reducible assumption) | assumption)); have HP41 := Kd.R_putg HO_9.out (x10_2 : Int) (x0_2.extract 0 ((ji31) : Int).toNat)) | ((with_reducible refine Zd8 (t := 9) (p := 49) rfl ?_); refine Zds (t := 9) (p := 49) (v := ?vo_w42) (w1 := (w40.setCell ⟨go36, (x10_2 : Int).toNat, none⟩ (.string (x0_2.extract 0 ((ji31) : Int).toNat)))) ?hg ?ho ?hn ?hr ?_; (case ho => rfl); (case hg => rfl); (case hn => rfl); (case hr => first | (go_simp; done) | (go_simp; rfl)); intro w42 hw; have hg : w40.grownBy w42 (some go36) := (by rw [hw]; exact HP41.2); have hp_ : Kd.R Kd.string 9 w42 w.heap.size (fun _ => True) (.slice (some ⟨go36, 0, none⟩) x9_2.length co36) y113 := (by rw [hw, Ny113.out]; exact HP41.1); clear HP41; have n0_ := Zad.mk (hp_); have n1_ := Zad.mk ((by rw [hw]; exact Zai (HB.out) GB36.out : Below w.heap.size w w42)); clear HO_9; clear HB; have HO_9 := n0_; have HB := n1_; clear hg hw hp_))
                 go_roundg k2
                 case measure => have := HJ8.out; have := HK2.out; omega
                 case rel => exact ⟨(x0_2.extract ((ji37) : Int).toNat x0_2.size), (y113), (wrap64 (x10_2 + 1)), (by first | rfl | (simp; done) | (simp only [← hji37] <;> (first | rfl | simp)) | (simp [*]; done)), (by first | rfl | (simp; done) | (simp [*]; done)), H', ⟨by have := HJ8.out; have := HK2.out; omega⟩, ⟨by (with_reducible repeat (first | apply Kd.R_alloc | apply Kd.R_drewN | apply Kd.R_drew)); exact HO_9.out⟩, ⟨by with_reducible repeat first | exact HB.out | apply Zac | apply Zaa | apply Zab⟩⟩
                ·rw [if_neg c39] at H
                 exact absurd H (by simp)
               ·rw [if_neg c38] at H
                exact absurd H (by simp)
              ·rw [if_neg c35] at H
               exact absurd H (by simp)
             ·rw [if_neg c34] at H
              exact absurd H (by simp)
            ·rw [if_neg c33] at H
             exact absurd H (by simp)
           ·rw [if_neg c32] at H
            exact absurd H (by simp)
         ·rw [if_neg c18] at H
          have c18b0 : decide (x10_2 < (wrap64 ((ji13) - 1))) = false := decide_eq_false c18
          clear c18
          by_cases c43 : 0 ≤ x10_2
          ·rw [if_pos c43] at H
           have c43b0 : decide (0 ≤ x10_2) = true := decide_eq_true c43
           clear c43
           by_cases c44 : x10_2 < (x9_2.length : Int)
           ·rw [if_pos c44] at H
            have c44b0 : decide (x10_2 < (x9_2.length : Int)) = true := decide_eq_true c44
            clear c44
            obtain ⟨y114, hy114⟩ : ∃ y_ : List ByteArray, y_ = (x9_2.set (x10_2 : Int).toNat x0_2) := ⟨_, rfl⟩
            replace H : (if 0 ≤ (wrap64 (x10_2 + 1)) then (if (wrap64 (x10_2 + 1)) ≤ (x9_2.length : Int) then (some (y114.take ((wrap64 (x10_2 + 1)) : Int).toNat)) else (none)) else (none)) = some r := by first | (rw [hy114]; with_reducible exact H) | (have H2_ := (Option.bind_some _ _).symm.trans H; rw [hy114]; with_reducible exact H2_) | (have H2_ := (Option.bind_some _ _).symm.trans H; with_reducible exact H2_) | with_reducible exact H | (rw [hy114]; exact H) | exact H
            have Ny114 := Zad.mk hy114
            clear hy114
            obtain ⟨ji46, hji46⟩ : ∃ j_ : Int, (wrap64 (x10_2 + 1)) = j_ := ⟨_, rfl⟩
            replace H : (if 0 ≤ (ji46) then (if (ji46) ≤ (x9_2.length : Int) then (some (y114.take ((ji46) : Int).toNat)) else (none)) else (none)) = some r := by first | (rw [hji46] at H; exact H) | (simp only [hji46] at H ⊢; exact H)
            have hji46w : (IntKind.i64.wrap (x10_2 + 1)) = ji46 := (i64_w _).trans hji46
            by_cases c47 : 0 ≤ (ji46)
            ·rw [if_pos c47] at H
             have c47b0 := eq_true c47
             have c47b1 : decide (0 ≤ (ji46)) = true := decide_eq_true c47
             clear c47
             by_cases c48 : (ji46) ≤ (x9_2.length : Int)
             ·rw [if_pos c48] at H
              have c48b0 := eq_true c48
              have c48b1 : decide ((ji46) ≤ (x9_2.length : Int)) = true := decide_eq_true c48
              clear c48
              obtain ⟨y115, hy115⟩ : ∃ y_ : List ByteArray, y_ = (y114.take ((ji46) : Int).toNat) := ⟨_, rfl⟩
              replace H : (some y115) = some r := by first | (rw [hy115]; with_reducible exact H) | (have H2_ := (Option.bind_some _ _).symm.trans H; rw [hy115]; with_reducible exact H2_) | (have H2_ := (Option.bind_some _ _).symm.trans H; with_reducible exact H2_) | with_reducible exact H | (rw [hy115]; exact H) | exact H
              have Ny115 := Zad.mk hy115
              clear hy115
              obtain rfl := Option.some.inj H
              have p45 : 0 ≤ (x10_2 : Int) := of_decide_eq_true (by first | (with_reducible assumption) | assumption)
              have q45 : (x10_2 : Int) < ((x9_2.length : Int) : Int) := of_decide_eq_true (by first | (with_reducible assumption) | assumption)
              obtain ⟨go45, co45, eo45, gb45, gl45, cl45, HG45⟩ := Kd.R_form HO_9.out (by omega)
              (first | cases eo45 | (injection eo45 with ea_ en_ ec_; (first | subst ea_ | (injection ea_ with ea_; subst ea_)); subst ec_; clear en_))
              have GB45 := Zad.mk gb45
              have GG45 := Zad.mk HG45
              clear gb45 gl45 HG45
              obtain ⟨hx45_0, hf45_0⟩ := Kd.R_celln (⟨#[]⟩ : ByteArray) HO_9.out (x10_2 : Int) p45 q45
              replace p45 := eq_true p45
              replace q45 := eq_true q45
              have HP49 := Kd.R_putg HO_9.out (x10_2 : Int) x0_2
              go_wp2_with (first | ((with_reducible refine Zd8 (t := 9) (p := 61) rfl ?_); refine Zds (t := 9) (p := 61) (v := ?vo_w50) (w1 := (wr.setCell ⟨go45, (x10_2 : Int).toNat, none⟩ (.string x0_2))) ?hg ?ho ?hn ?hr ?_; (case ho => rfl); (case hg => rfl); (case hn => rfl); (case hr => first | (go_simp; done) | (go_simp; rfl)); intro w50 hw; have hg : wr.grownBy w50 (some go45) := (by rw [hw]; exact HP49.2); have hp_ : Kd.R Kd.string 9 w50 w.heap.size (fun _ => True) (.slice (some ⟨go45, 0, none⟩) x9_2.length co45) y114 := (by rw [hw, Ny114.out]; exact HP49.1); clear HP49; have n0_ := Zad.mk (hp_); have n1_ := Zad.mk ((by rw [hw]; exact Zai (HB.out) GB45.out : Below w.heap.size w w50)); clear HO_9; clear HB; have HO_9 := n0_; have HB := n1_; clear hg hw hp_; have hlg51 : (y114.length : Int) = (x9_2.length : Int) := (by rw [Ny114.out]; simp only [List.length_set]); have q51 : ((ji46) : Int) ≤ ((x9_2.length : Int) : Int) := of_decide_eq_true (by first | (with_reducible assumption) | assumption); obtain ⟨i051, hi051, _, hsz51, _⟩ := info_parts info9; have hcut51 := Zg5 (P := Tryz.prog) 22 9 .i64 Tryz.underlying22 hi051 (some ⟨go45, 0, none⟩) x9_2.length co45 (ji46) (of_decide_eq_true (by first | (with_reducible assumption) | assumption)) q51 (Kd.R_reads' HO_9.out).2.1; have hr51 := Kd.R_take (m := ((ji46) : Int).toNat) HO_9.out (by omega); have hy51 : y115.length = ((ji46) : Int).toNat := (by rw [Ny115.out, List.length_take]; omega); rw [← Ny115.out] at hr51; rw [← hy51] at hr51 hcut51; clear hy51 hi051 hsz51 HO_9; have HO117 := Zad.mk hr51; clear hr51; replace q51 := eq_true q51))
              go_ret
              exact ⟨_, by first | rfl | (simp [Zap, Zao] <;> rfl) | (simp only [← hji13, ← hji46]; first | rfl | (simp [Zap, Zao] <;> rfl)) | (simp [*, Zap, Zao] <;> rfl), by (with_reducible repeat (first | apply Kd.R_alloc | apply Kd.R_drewN | apply Kd.R_drew)); exact HO117.out, by repeat (first | (with_reducible first | exact HB.out | apply Zac | apply Zaa | apply Zab) | exact HB.out)⟩
             ·rw [if_neg c48] at H
              exact absurd H (by simp)
            ·rw [if_neg c47] at H
             exact absurd H (by simp)
           ·rw [if_neg c44] at H
            exact absurd H (by simp)
          ·rw [if_neg c43] at H
           exact absurd H (by simp)
      ·rw [if_neg c15] at H
       exact absurd H (by simp)
     ·rw [if_neg c14] at H
      exact absurd H (by simp)
def Zcj.f (k : Nat) (a0 : ByteArray) (a1 : ByteArray) : Option (List ByteArray) := (Zau.f k a0 a1 0 (-1)).bind fun t101 => (some t101)
set_option maxHeartbeats 8000000 in
set_option maxRecDepth 100000 in
theorem Zcj.calls (k : Nat) (a0 : ByteArray) (a1 : ByteArray) (r : List ByteArray) (w : World) (h : Zcj.f k a0 a1 = some r) :
  Calls Tryz.prog 104 #[.string a0, .string a1] w fun e w' => ∃ v0_ : Value, e = .returned (v0_) ∧ Kd.R Kd.string 9 w' w.heap.size (fun _ => True) v0_ r ∧ Below w.heap.size w w' := by
 have HB := Zad.mk (Below.refl w.heap.size w)
 have H : ((Zau.f k a0 a1 0 (-1)).bind fun t101 => (some t101)) = some r := h
 clear h
 replace H := Option.bind_eq_some_iff.mp H
 obtain ⟨t101, A30, H⟩ := H
 replace H : (some t101) = some r := H
 have A3 := Zad.mk A30
 clear A30
 obtain rfl := Option.some.inj H
 go_enter Tryz.func104, Tryz.ntmps104
 go_wp2_with (first | ((with_reducible refine Zas (f := 156) rfl ?_); refine Zbg (some 7) rfl rfl Tryz.func156 (by kernel_rfl) rfl #[.string a0, .string a1, .int .i64 0, .int .i64 (-1)] rfl (by (try simp only [List.map_toArray, List.map_cons, List.map_nil]); first | done | rfl | (simp only [List.length_drop, List.length_take]; rfl)) ?_; (with_reducible refine (Zau.calls k a0 a1 0 (-1) t101 _ A3.out).mono ?_); rintro e w4 ⟨v102, rfl, ho0, hb⟩; refine ⟨_, rfl, ?_⟩; have n0_ := Zad.mk (Kd.R_lower ho0 (Zak (by with_reducible repeat first | exact HB.out | apply Zac | apply Zaa | apply Zab))); have n1_ := Zad.mk (Zal (by with_reducible repeat first | exact HB.out | apply Zac | apply Zaa | apply Zab) hb); clear HB; have HO103 := n0_; have HB := n1_))
 go_ret
 exact ⟨_, by first | rfl | (simp [Zap, Zao] <;> rfl) | (simp [*, Zap, Zao] <;> rfl), by (with_reducible repeat (first | apply Kd.R_alloc | apply Kd.R_drewN | apply Kd.R_drew)); exact HO103.out, by repeat (first | (with_reducible first | exact HB.out | apply Zac | apply Zaa | apply Zab) | exact HB.out)⟩
def Zcp.f (k : Nat) (a0 : ByteArray) : Option (Int × Int × List Int) :=
 (Zcj.f k a0 (⟨#[47]⟩ : ByteArray)).bind fun rows => if 0 < rows.length then (strings_Join.f rows (⟨#[]⟩ : ByteArray)).bind fun s => some (((rdOf ByteArray.empty rows 0).size : Int), (rows.length : Int), bytesOf s) else none
theorem Zi3 {W W' : World} {b : Nat} (h : W'.heap[b]? = W.heap[b]?) (o : Nat) : W'.cell? ⟨b, o, none⟩ = W.cell? ⟨b, o, none⟩ := by
 simp only [World.cell?, h]
theorem read_old {w w1 w2 : World} {s : ByteArray} (hB : Below (w.alloc (.cells #[.int .i64 0, .int .i64 0, .slice none 0 0] 93)).heap.size (w.alloc (.cells #[.int .i64 0, .int .i64 0, .slice none 0 0] 93)) w1) (hb : Below w1.heap.size w1 w2) :
  (Lib.bytesWorld w2 5 s).cell? ⟨w.heap.size, 0, none⟩ = some (.int .i64 0) ∧ (Lib.bytesWorld w2 5 s).cell? ⟨w.heap.size, 1, none⟩ = some (.int .i64 0) ∧ (Lib.bytesWorld w2 5 s).cell? ⟨w.heap.size, 2, none⟩ = some (.slice none 0 0) ∧
  (Lib.bytesWorld w2 5 s).frozen? ⟨w.heap.size, 0, none⟩ = false ∧ (Lib.bytesWorld w2 5 s).frozen? ⟨w.heap.size, 1, none⟩ = false ∧ (Lib.bytesWorld w2 5 s).frozen? ⟨w.heap.size, 2, none⟩ = false := by
 have h1 : w.heap.size < w1.heap.size := by have := hB.size; simp at this; omega
 have h2 : w.heap.size < w2.heap.size := Nat.lt_of_lt_of_le h1 hb.size
 have e : (Lib.bytesWorld w2 5 s).heap[w.heap.size]? = (w.alloc (.cells #[.int .i64 0, .int .i64 0, .slice none 0 0] 93)).heap[w.heap.size]? := by
  rw [Lib.bytesWorld_at_old _ _ _ _ h2, hb.block _ h1, hB.block _ (by simp)]
 have e2 : (Lib.bytesWorld w2 5 s).heap[w.heap.size]? = some (.cells #[.int .i64 0, .int .i64 0, .slice none 0 0] 93 (0, 0)) := by
  rw [e]; simpa using heap_alloc_new w _
 simp [World.cell?, World.frozen?, e2]
theorem Zlp {l : List ByteArray} {sep s : ByteArray} (hj : strings_Join.f l sep = some s) : s.size ≤ 140737488355328 := by
 unfold strings_Join.f at hj
 split at hj
 ·rename_i hl
  obtain rfl := Option.some.inj hj
  show (_ : List UInt8).toArray.size ≤ _
  rw [List.size_toArray]
  exact hl.2
 ·cases hj
def RowF (W : World) (g n : Nat) (xs : List Int) : Prop := xs.length = n ∧ ∃ cur lo hi, W.heap[g]? = some (.cells cur 5 (lo, hi)) ∧ n ≤ lo ∧ n ≤ cur.size ∧ ∀ (j : Nat) x, xs[j]? = some x → cur[j]? = some (.int .u8 x)
theorem RowF.cell {W : World} {g n : Nat} {xs : List Int} (h : RowF W g n xs) (j : Nat) (x : Int) (hx : xs[j]? = some x) : W.cell? ⟨g, j, none⟩ = some (.int .u8 x) := by
 obtain ⟨_, cur, lo, hi, hg, _, _, hc⟩ := h
 simp [World.cell?, hg, hc j x hx]
theorem RowF.frozen {W : World} {g n : Nat} {xs : List Int} (h : RowF W g n xs) (j : Nat) (hj : j < n) : W.frozen? ⟨g, j, none⟩ = false := by
 obtain ⟨_, cur, lo, hi, hg, hlo, _, _⟩ := h
 simp [World.frozen?, hg]; omega
theorem RowF.of_heap {W W' : World} {g n : Nat} {xs : List Int} (h : RowF W g n xs) (he : W'.heap[g]? = W.heap[g]?) : RowF W' g n xs := by
 obtain ⟨hl, cur, lo, hi, hg, r⟩ := h
 exact ⟨hl, cur, lo, hi, he.trans hg, r⟩
theorem RowF.put {W : World} {g n : Nat} {xs : List Int} (h : RowF W g n xs) (i : Nat) (hi : i < n) (x : Int) : RowF (W.setCell ⟨g, i, none⟩ (.int .u8 x)) g n (xs.set i x) := by
 obtain ⟨hl, cur, lo, hi', hg, hlo, hs, hc⟩ := h
 refine ⟨by simp [hl], cur.setIfInBounds i (.int .u8 x), lo, hi', ?_, hlo, by simpa using hs, ?_⟩
 ·simp only [World.setCell, Array.getElem?_modify, hg]
  simp
 ·intro j y hj
  rw [Array.getElem?_setIfInBounds]
  rw [List.getElem?_set] at hj
  by_cases e : i = j
  ·subst e
   rw [if_pos rfl] at hj ⊢
   rw [if_pos (by omega)] at hj ⊢
   simpa using hj
  ·rw [if_neg e] at hj ⊢
   exact hc j y hj
theorem RowF.C {W : World} {g n : Nat} {xs : List Int} (h : RowF W g n xs) (hm : n ≤ 140737488355328) : Kd.C (Kd.int .u8) W (some ⟨g, 0, none⟩) n xs := by
 refine Kd.C_of_reads (d := (0 : Int)) (h1 := fun _ => rfl) ⟨h.1, by omega, fun hn => ⟨_, rfl, fun j hj => ?_⟩⟩
 have ea : (Addr.add ⟨g, 0, none⟩ j) = ⟨g, j, none⟩ := by
  unfold Addr.add; split
  ·rename_i h; subst h; rfl
  ·simp
 have hj' : j < xs.length := by rw [h.1]; exact hj
 rw [ea, h.cell j _ (List.getElem?_eq_getElem hj')]
 simp [List.getD_eq_getElem?_getD, List.getElem?_eq_getElem hj']
theorem read_row {w w2 : World} {s : ByteArray} {x y z : Value} (h2 : w.heap.size < w2.heap.size) :
  RowF ((((Lib.bytesWorld w2 5 s).setCell ⟨w.heap.size, 0, none⟩ x).setCell ⟨w.heap.size, 1, none⟩ y).setCell ⟨w.heap.size, 2, none⟩ z) w2.heap.size (bytesOf s).length (bytesOf s) := by
 have hg : ((((Lib.bytesWorld w2 5 s).setCell ⟨w.heap.size, 0, none⟩ x).setCell ⟨w.heap.size, 1, none⟩ y).setCell ⟨w.heap.size, 2, none⟩ z).heap[w2.heap.size]? = (Lib.bytesWorld w2 5 s).heap[w2.heap.size]? := by
  rw [Below.heap_setCell _ _ _ _ (by show w2.heap.size ≠ w.heap.size; omega), Below.heap_setCell _ _ _ _ (by show w2.heap.size ≠ w.heap.size; omega), Below.heap_setCell _ _ _ _ (by show w2.heap.size ≠ w.heap.size; omega)]
 refine RowF.of_heap ?_ hg
 have hnew := Lib.bytesWorld_at_new w2 5 s
 have hsz : (bytesOf s).length ≤ (Lib.bytesCells w2 5 s).size := by
  rcases Nat.eq_zero_or_pos s.size with h0 | h0
  ·rw [Zcc, h0]; omega
  ·have hc := Lib.bytesWorld_cell w2 5 s (s.size - 1) (by omega)
   simp only [World.cell?, hnew] at hc
   have := (Array.getElem?_eq_some_iff.1 hc).1
   rw [Zcc]; omega
 refine ⟨rfl, _, _, _, hnew, hsz, hsz, fun j x hj => ?_⟩
 have hjl : j < s.size := by have := (List.getElem?_eq_some_iff.1 hj).1; rwa [Zcc] at this
 have hc := Lib.bytesWorld_cell w2 5 s j hjl
 simp only [World.cell?, hnew, Option.isSome_none, Bool.false_eq_true, if_false] at hc
 rw [hc]
 have : (bytesOf s)[j]? = some (((s.data.toList.getD j 0).toNat : Nat) : Int) := by simp [bytesOf, List.getD_eq_getElem?_getD, hjl]
 rw [this] at hj
 rw [Option.some.inj hj]
theorem read_end {w w1 w2 : World} {s : ByteArray} {x y : Value} (hs : s.size ≤ 140737488355328) (hB : Below (w.alloc (.cells #[.int .i64 0, .int .i64 0, .slice none 0 0] 93)).heap.size (w.alloc (.cells #[.int .i64 0, .int .i64 0, .slice none 0 0] 93)) w1) (hb : Below w1.heap.size w1 w2) :
  ((((Lib.bytesWorld w2 5 s).setCell ⟨w.heap.size, 0, none⟩ x).setCell ⟨w.heap.size, 1, none⟩ y).setCell ⟨w.heap.size, 2, none⟩ (.slice (some ⟨w2.heap.size, 0, none⟩) s.size (grownCap w2 s.size 0 5))).heap[w.heap.size]? = some (.cells #[x, y, .slice (some ⟨w2.heap.size, 0, none⟩) s.size (grownCap w2 s.size 0 5)] 93 (0, 0)) ∧
  Kd.V (Kd.int .u8) 5 ((((Lib.bytesWorld w2 5 s).setCell ⟨w.heap.size, 0, none⟩ x).setCell ⟨w.heap.size, 1, none⟩ y).setCell ⟨w.heap.size, 2, none⟩ (.slice (some ⟨w2.heap.size, 0, none⟩) s.size (grownCap w2 s.size 0 5))) w.heap.size (fun k_ => w.heap.size ≤ k_) (.slice (some ⟨w2.heap.size, 0, none⟩) s.size (grownCap w2 s.size 0 5)) (bytesOf s) ∧
  Below w.heap.size w ((((Lib.bytesWorld w2 5 s).setCell ⟨w.heap.size, 0, none⟩ x).setCell ⟨w.heap.size, 1, none⟩ y).setCell ⟨w.heap.size, 2, none⟩ (.slice (some ⟨w2.heap.size, 0, none⟩) s.size (grownCap w2 s.size 0 5))) := by
 have h1 : w.heap.size < w1.heap.size := by have := hB.size; simp at this; omega
 have h2 : w.heap.size < w2.heap.size := Nat.lt_of_lt_of_le h1 hb.size
 have e2 : (Lib.bytesWorld w2 5 s).heap[w.heap.size]? = some (.cells #[.int .i64 0, .int .i64 0, .slice none 0 0] 93 (0, 0)) := by
  rw [Lib.bytesWorld_at_old _ _ _ _ h2, hb.block _ h1, hB.block _ (by simp)]; simpa using heap_alloc_new w _
 refine ⟨?_, ?_, ?_⟩
 ·refine Zav (cs := #[x, y, .slice none 0 0]) ?_ 2 _ rfl
  refine Zav (cs := #[x, .int .i64 0, .slice none 0 0]) ?_ 1 _ rfl
  exact Zav (cs := #[.int .i64 0, .int .i64 0, .slice none 0 0]) e2 0 _ rfl
 ·refine ⟨some ⟨w2.heap.size, 0, none⟩, grownCap w2 s.size 0 5, by rw [Zcc], by rw [Zcc]; exact grownCap_ge _ _ _ _, ?_⟩
  intro W' hW
  refine Kd.C_of_reads (d := (0 : Int)) (h1 := fun _ => rfl) ⟨by rfl, by rw [Zcc]; omega, fun hn => ⟨_, rfl, fun j hj => ?_⟩⟩
  rw [Zcc] at hj
  have hg : ((((Lib.bytesWorld w2 5 s).setCell ⟨w.heap.size, 0, none⟩ x).setCell ⟨w.heap.size, 1, none⟩ y).setCell ⟨w.heap.size, 2, none⟩ (.slice (some ⟨w2.heap.size, 0, none⟩) s.size (grownCap w2 s.size 0 5))).heap[w2.heap.size]? = (Lib.bytesWorld w2 5 s).heap[w2.heap.size]? := by
   rw [Below.heap_setCell _ _ _ _ (by show w2.heap.size ≠ w.heap.size; omega), Below.heap_setCell _ _ _ _ (by show w2.heap.size ≠ w.heap.size; omega), Below.heap_setCell _ _ _ _ (by show w2.heap.size ≠ w.heap.size; omega)]
  have hW2 : W'.heap[w2.heap.size]? = (Lib.bytesWorld w2 5 s).heap[w2.heap.size]? := (hW _ (by omega) (by simp [World.setCell, Lib.bytesWorld_size])).trans hg
  have := (Zi3 hW2 j).trans (Lib.bytesWorld_cell w2 5 s j hj)
  have ea : (Addr.add ⟨w2.heap.size, 0, none⟩ j) = ⟨w2.heap.size, j, none⟩ := by
   unfold Addr.add; split
   ·rename_i h; subst h; rfl
   ·simp
  rw [ea, this]
  simp [bytesOf, List.getD_eq_getElem?_getD, hj]
 ·have hw1 : Below w.heap.size w w1 := ((Below.refl _ _).alloc (Nat.le_refl _) _).trans (hB.mono (by simp))
  have hw2 : Below w.heap.size w w2 := hw1.trans (hb.mono hw1.size)
  have hw3 : Below w.heap.size w (Lib.bytesWorld w2 5 s) := hw2.trans ((Lib.bytesWorld_below w2 5 s).mono hw2.size)
  exact ((hw3.setCell (Nat.le_refl _) _).setCell (Nat.le_refl _) _).setCell (Nat.le_refl _) _
set_option maxHeartbeats 1000000 in
theorem Zcp.calls2 (k : Nat) (a0 : ByteArray) (r1 r2 : Int) (r3 : List Int) (w : World) (h : Zcp.f k a0 = some (r1, r2, r3)) :
  Calls Tryz.prog 69 #[.string a0] w fun e w' => ∃ g cap, e = .returned (.agg #[.int .i64 r1, .int .i64 r2, .slice (some ⟨g, 0, none⟩) r3.length cap]) ∧ r3.length ≤ cap ∧ r3.length ≤ 140737488355328 ∧ w.heap.size < g ∧ g < w'.heap.size ∧ RowF w' g r3.length r3 ∧ Below w.heap.size w w' := by
 unfold Zcp.f at h
 obtain ⟨rows, hs, h⟩ := Option.bind_eq_some_iff.mp h
 split at h
 ·rename_i hne
  obtain ⟨s, hj, h⟩ := Option.bind_eq_some_iff.mp h
  simp only [Option.some.injEq, Prod.mk.injEq] at h
  obtain ⟨rfl, rfl, rfl⟩ := h
  have hcv := fun (w : World) (s : ByteArray) => Lib.run_convert_string_bytes (P := Tryz.prog) w 9 50 5 s Tryz.underlying9 Tryz.underlying50 Tryz.underlying5
  go_enter Tryz.func69, Tryz.ntmps69
  go_wp2_with (go_at_call 104; refine (Zcj.calls k a0 _ rows _ hs).mono ?_; rintro e w1 ⟨v, rfl, hR, hB⟩)
  obtain ⟨A, c, rfl, hcl, hC⟩ := Kd.R_reads hR
  obtain ⟨_, hmax, hx⟩ := Zd9 hC
  rcases hx with rfl | ⟨b, off, rfl, hb, hcell⟩
  ·simp at hne
  have h0 : w1.cell? ⟨b, off, none⟩ = some (.string (rdOf ByteArray.empty rows 0)) := by
   have := hcell 0 (rows[0]'hne) (List.getElem?_eq_getElem hne)
   simpa [rdOf, List.getD, List.getElem?_eq_getElem hne] using this
  have hlt : (0 : Int) < (rows.length : Int) := by omega
  clear hcell hne hmax hs hR h
  have hss : s.size ≤ 140737488355328 := Zlp hj
  have HSS := Zad.mk hss
  clear hss
  have HBh := Zad.mk hB
  have hsz : w.heap.size < w1.heap.size := by have := hB.size; simp at this; omega
  clear hB
  go_region_with (first | (go_at_call 107; refine (strings_Join.calls (some ⟨b, off, none⟩) c rows _ s _ ?_ hcl hj).mono ?_; exact (Kd.C_below hC (by first | exact Below.refl _ _ | exact (Below.refl _ _).drew)); rintro e w2 ⟨rfl, hb2⟩; have kf := read_old HBh.out (s := s) (w2 := w2) (by first | exact hb2 | exact (Zab (Below.refl _ _)).trans hb2); have k0 := kf.1; have k1 := kf.2.1; have k2 := kf.2.2.1; have k3 := kf.2.2.2.1; have k4 := kf.2.2.2.2.1; have k5 := kf.2.2.2.2.2; clear kf; have kb2 := (Zal (show Below w1.heap.size w1 w2 by first | exact hb2 | exact (Zab (Below.refl _ _)).trans hb2) (Below.refl _ _)); have kb : w2.cell? ⟨b, off, none⟩ = some (.string (rdOf ByteArray.empty rows 0)) := (kb2.cell (p := ⟨b, off, none⟩) hb).trans h0; have kc : (Lib.bytesWorld w2 5 s).cell? ⟨b, off, none⟩ = some (.string (rdOf ByteArray.empty rows 0)) := (Lib.bytesWorld_old _ _ _ _ (Nat.lt_of_lt_of_le hb kb2.size)).trans kb; clear kb2))
  all_goals go_wp2
  all_goals
   have hb3 : Below w1.heap.size w1 w2 := by first | exact hb2 | exact (Zab (Below.refl _ _)).trans hb2
   obtain ⟨hE1, hE2, hE3⟩ := read_end (x := .int .i64 (rdOf ByteArray.empty rows 0).size) (y := .int .i64 rows.length) HSS.out HBh.out hb3
   refine bodyPost_ret (results_cell_row rfl _ _ w.heap.size 93 #[.int .i64 (rdOf ByteArray.empty rows 0).size, .int .i64 rows.length, .slice (some ⟨w2.heap.size, 0, none⟩) s.size (grownCap w2 s.size 0 5)] (0, 0) _ rfl hE1 Tryz.underlying93 rfl (by kernel_rfl)) rfl ?_
   have h1' : w.heap.size < w1.heap.size := by have := HBh.out.size; simp at this; omega
   have h2' : w.heap.size < w2.heap.size := Nat.lt_of_lt_of_le h1' hb3.size
   refine ⟨w2.heap.size, grownCap w2 s.size 0 5, by rw [Zcc], by rw [Zcc]; exact grownCap_ge _ _ _ _, by rw [Zcc]; exact HSS.out, h2', ?_, read_row h2', hE3⟩
   simp [World.setCell, Lib.bytesWorld_size]
 ·cases h
def Zfh.f (a0 : Int) : Option (Bool) := some (a0 != 35)
set_option maxHeartbeats 8000000 in
set_option maxRecDepth 100000 in
theorem Zfh.calls (a0 : Int) (r : Bool) (w : World) (h : Zfh.f a0 = some r) :
  Calls Tryz.prog 81 #[.int .u8 a0] w fun e w' => e = .returned (.bool r) ∧ Za2 w w' := by
 have H : (some (a0 != 35)) = some r := h
 clear h
 obtain rfl := Option.some.inj H
 go_enter Tryz.func81, Tryz.ntmps81
 go_wp2
 go_ret
 exact ⟨by first | rfl | (simp; done) | (simp [*]; done), by repeat (first | exact Za2.refl _ | apply Za2.step)⟩
theorem i64_and1 (n : Int) : Go.bits .and .i64 n 1 = n % 2 := by
 have h1 : (BitVec.ofInt 64 1).toNat = 2 ^ 1 - 1 := by decide
 have key : (BitVec.ofInt 64 n &&& BitVec.ofInt 64 1).toNat = (n % ((2 ^ 64 : Nat) : Int)).toNat % 2 ^ 1 := by
  rw [BitVec.toNat_and, BitVec.toNat_ofInt, h1, Nat.and_two_pow_sub_one_eq_mod]
 show IntKind.i64.wrap ((BitVec.ofInt 64 n &&& BitVec.ofInt 64 1).toNat : Nat) = n % 2
 rw [key, IntKind.wrap_i64]
 omega
end Go.Proofs.YtjohcjkidoalkaaGreatDoor.PA
