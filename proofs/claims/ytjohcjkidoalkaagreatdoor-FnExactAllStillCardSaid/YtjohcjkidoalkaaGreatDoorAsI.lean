/- Contracts of functions and plain lemmas, for the last text. -/
import Derived.Test.YtjohcjkidoalkaaGreatDoorAsH
import Derived.Deep.CutBlock
import Derived.Deep.RegionWith
import Derived.Deep.DeepMust
import Derived.RangeFuncNested
import Derived.RangeFuncBound
import Derived.RangeFuncCalls
import Derived.RangeFuncLeaves
import Derived.RangeFuncBox
import Derived.Shelf.Abstract
import Derived.Shelf.RegionOpen
import Derived.WalkKit
import Derived.OwnWalkIn
import Derived.TacticsInMore
import Derived.LoopNIn
import Derived.LoopIn
import Derived.Maps.AppendAt
import Derived.RangeFuncWrites
import Derived.Deep.RegionLaw
import Derived.Deep.AppendLies
import Derived.Laws.BitsLemmas
set_option linter.unusedVariables false
set_option linter.unusedSimpArgs false
namespace Go.Proofs.YtjohcjkidoalkaaGreatDoor.PA
open Go.RowKit Go.PW.PrintWords Go.PW.PrintLast Go.PW.PrintMore
attribute [local go_sem] Zbo Zbm Zbz Zby Zbd Zbc Zbn Zbl
def Zcb.f (a0_0 : Int) (a0_1 : Int) (l0_2 : List Int) : Option (Int × Int × List Int) := (Zce.f l0_2).bind fun t103 => (some (a0_0, a0_1, t103))
def Zcb.T1 : Bool × List (List Nat × List Nat) := (true, [([], []), ([0], [0]), ([], []), ([2], [2]), ([], []), ([4], [4]), ([5], [5]), ([1, 3, 6], [1, 3, 6]), ([7, 6, 0, 1, 2, 3, 4, 5, 6, 7], [7])])
def Zcb.B1 : List Nat := [0, 1, 0, 4, 0, 16, 48, 127, 255]
theorem Zcb.tab1 : rtab .any (opsOf Tryz.f196 1) = Zcb.T1 := by kernel_rfl
theorem Zcb.bits1 : Zec Zcb.T1.2 Zcb.B1 = true := by kernel_rfl
set_option maxHeartbeats 8000000 in
set_option maxRecDepth 100000 in
theorem Zcb.calls (a0_0 : Int) (a0_1 : Int) (A0_2 : Option Addr) (c0_2 : Nat) (l0_2 : List Int) (r1 : Int) (r2 : Int) (r3 : List Int) (w : World) (hr0_2 : Kd.C (Kd.int .u8) w A0_2 l0_2.length l0_2) (hc0_2 : l0_2.length ≤ c0_2) (h : Zcb.f a0_0 a0_1 l0_2 = some (r1, r2, r3)) :
  Calls Tryz.prog 196 #[.agg #[.int .i64 a0_0, .int .i64 a0_1, .slice A0_2 l0_2.length c0_2]] w fun e w' => ∃ v2_ : Value, e = .returned (.agg #[.int .i64 r1, .int .i64 r2, v2_]) ∧ Kd.R (Kd.int .u8) 5 w' w.heap.size (fun _ => True) v2_ r3 ∧ Below w.heap.size w w' := by
 have hu93 := Tryz.underlying93
 have HR0_2 := Zad.mk hr0_2
 have HC0_2 := Zad.mk hc0_2
 clear hr0_2 hc0_2
 have HB := Zad.mk (Below.refl w.heap.size w)
 have H : ((Zce.f l0_2).bind fun t103 => (some (a0_0, a0_1, t103))) = some (r1, r2, r3) := h
 clear h
 replace H := Option.bind_eq_some_iff.mp H
 obtain ⟨t103, A20, H⟩ := H
 replace H : (some (a0_0, a0_1, t103)) = some (r1, r2, r3) := H
 have A2 := Zad.mk A20
 clear A20
 simp only [Option.some.injEq, Prod.mk.injEq] at H
 obtain ⟨rfl, rfl, rfl⟩ := H
 go_enter Tryz.func196, Tryz.ntmps196
 try go_wp2_with (first | ((with_reducible refine Zay (N := 1) rfl ?_); refine Zaz ?hg (N := 1) ?hd (cs := #[.int .i64 a0_0, .int .i64 a0_1, .slice A0_2 l0_2.length c0_2]) (t := 93) ?hr ?_; (case hd => rfl); (case hg => rfl); (case hr => first | (go_simp; done) | (go_simp; rfl)); intro g01 hg w3 hbox hb; have n0_ := Zad.mk (Zal (by with_reducible repeat first | exact HB.out | apply Zac | apply Zaa | apply Zab) hb); have n1_ := Zad.mk (hbox); have n2_ := Zad.mk ((by rw [hg]; exact (Zak (by with_reducible repeat first | exact HB.out | apply Zac | apply Zaa | apply Zab)) : w.heap.size ≤ g01)); have n3_ := n2_; clear HB; have HB := n0_; have K01 := n1_; have W01 := n2_; have E01 := n3_; clear hb hbox hg) | ((with_reducible refine Zay (N := 2) rfl ?_); refine Zaz ?hg (N := 2) ?hd (cs := #[.int .i64 0, .int .i64 0, .slice none 0 0]) (t := 93) ?hr ?_; (case hd => rfl); (case hg => rfl); (case hr => first | (go_simp; done) | (go_simp; rfl)); intro g02 hg w4 hbox hb; have n0_ := Zad.mk (Zav (g := g01) (o := .cells #[.int .i64 a0_0, .int .i64 a0_1, .slice A0_2 l0_2.length c0_2] 93 (0, 0)) (by (with_reducible repeat (first | refine Zag ?_ _ | refine Zaj ?_ | refine Zaf ?_ _)); exact K01.out) hb); have n1_ := Zad.mk (Zal (by with_reducible repeat first | exact HB.out | apply Zac | apply Zaa | apply Zab | refine Zah ?_ E01.out) hb); have n2_ := Zad.mk (hbox); have n3_ := Zad.mk ((by rw [hg]; exact (Zak (by with_reducible repeat first | exact HB.out | apply Zac | apply Zaa | apply Zab | refine Zah ?_ E01.out)) : w.heap.size ≤ g02)); have n4_ := n3_; have n5_ := Zad.mk ((by rw [hg]; exact Nat.ne_of_lt (Zct (g := g01) (o := .cells #[.int .i64 a0_0, .int .i64 a0_1, .slice A0_2 l0_2.length c0_2] 93 (0, 0)) (by (with_reducible repeat (first | refine Zag ?_ _ | refine Zaj ?_ | refine Zaf ?_ _)); exact K01.out)) : g01 ≠ g02)); have n6_ := Zad.mk ((by rw [hg]; exact Nat.ne_of_gt (Zct (g := g01) (o := .cells #[.int .i64 a0_0, .int .i64 a0_1, .slice A0_2 l0_2.length c0_2] 93 (0, 0)) (by (with_reducible repeat (first | refine Zag ?_ _ | refine Zaj ?_ | refine Zaf ?_ _)); exact K01.out)) : g02 ≠ g01)); clear K01; clear HB; have K01 := n0_; have HB := n1_; have K02 := n2_; have W02 := n3_; have E02 := n4_; have N01_02 := n5_; have N02_01 := n6_; clear hb hbox hg))
 have n0_ := Zad.mk (Zaj K01.out)
 have n1_ := Zad.mk (Zaj K02.out)
 have n2_ := Zad.mk (Zab HB.out)
 clear K01
 clear K02
 clear HB
 have K01 := n0_
 have K02 := n1_
 have HB := n2_
 clear n0_ n1_ n2_
 refine Zfe (n := 9) (S := fun w' => w'.cell? ⟨g01, 0, none⟩ = some (.int .i64 a0_0) ∧ w'.cell? ⟨g01, 1, none⟩ = some (.int .i64 a0_1) ∧ w'.cell? ⟨g01, 2, none⟩ = some (.slice A0_2 l0_2.length c0_2)) (ds := []) #[false, false, false, false, false, false, false, false, false] (by kernel_rfl) rfl rfl ⟨(Zai K01.out 0).trans rfl, (Zai K01.out 1).trans rfl, (Zai K01.out 2).trans rfl⟩ (fun hHeld => ?_); refine Zdv Zcb.tab1 Zcb.bits1 (fun HT_ HW_ => ?_)
 generalize w4.drew = w5 at K01 K02 HB hHeld ⊢
 refine pure_ (i := 0) (N := some 3) (v := ?_) (a' := ?_) #[true, false, false, false, false, false, false, false, false] rfl rfl (Zb5 HT_.out (by kernel_rfl)) (fun _ _ _ h => h) (Or.inl ⟨by rfl, ?_⟩) ?_ ?_
 rotate_left
 ·intro w'
  go_simp
  with_reducible rfl
 rotate_left
 ·simp only [Act.put, List.setIfInBounds_toArray, List.set_cons_zero, List.set_cons_succ, i64_w, i32_w]
  rfl
 refine pure_ (i := 2) (N := some 5) (v := ?_) (a' := ?_) #[true, false, true, false, false, false, false, false, false] rfl rfl (Zb5 HT_.out (by kernel_rfl)) (fun _ _ _ h => h) (Or.inl ⟨by rfl, ?_⟩) ?_ ?_
 rotate_left
 ·intro w'
  go_simp
  with_reducible rfl
 rotate_left
 ·simp only [Act.put, List.setIfInBounds_toArray, List.set_cons_zero, List.set_cons_succ, i64_w, i32_w]
  rfl
 refine pure_ (i := 4) (N := some 7) (v := ?_) (a' := ?_) #[true, false, true, false, true, false, false, false, false] rfl rfl (Zb5 HT_.out (by kernel_rfl)) (fun _ _ _ h => h) (Or.inl ⟨by rfl, ?_⟩) ?_ ?_
 rotate_left
 ·intro w'
  go_simp
  with_reducible rfl
 rotate_left
 ·simp only [Act.put, List.setIfInBounds_toArray, List.set_cons_zero, List.set_cons_succ, i64_w, i32_w]
  rfl
 refine take_ (i := 1) (N := some 4) (v := ?_) (a' := ?_) #[true, true, true, false, true, false, false, false, false] rfl rfl (Zdb HT_.out HW_.out (by kernel_rfl)) (fun _ _ _ h => h) (Or.inl ⟨by rfl, ?_⟩) hHeld ?_ ?_
 rotate_left
 ·rintro w' ⟨s0, s1, s2⟩
  go_simp
  with_reducible rfl
 rotate_left
 ·simp only [Act.put, List.setIfInBounds_toArray, List.set_cons_zero, List.set_cons_succ, i64_w, i32_w]
  rfl
 refine take_ (i := 3) (N := some 6) (v := ?_) (a' := ?_) #[true, true, true, true, true, false, false, false, false] rfl rfl (Zdb HT_.out HW_.out (by kernel_rfl)) (fun _ _ _ h => h) (Or.inl ⟨by rfl, ?_⟩) hHeld ?_ ?_
 rotate_left
 ·rintro w' ⟨s0, s1, s2⟩
  go_simp
  with_reducible rfl
 rotate_left
 ·simp only [Act.put, List.setIfInBounds_toArray, List.set_cons_zero, List.set_cons_succ, i64_w, i32_w]
  rfl
 refine take_ (i := 5) (N := some 8) (v := ?_) (a' := ?_) #[true, true, true, true, true, true, false, false, false] rfl rfl (Zdb HT_.out HW_.out (by kernel_rfl)) (fun _ _ _ h => h) (Or.inl ⟨by rfl, ?_⟩) hHeld ?_ ?_
 rotate_left
 ·rintro w' ⟨s0, s1, s2⟩
  go_simp
  with_reducible rfl
 rotate_left
 ·simp only [Act.put, List.setIfInBounds_toArray, List.set_cons_zero, List.set_cons_succ, i64_w, i32_w]
  rfl
 refine one_ (i := 6) (N := some 9) #[true, true, true, true, true, true, true, false, false] rfl rfl (Zd0 HT_.out (by kernel_rfl)) (by decide) (fun K hK => ?_)
 refine goes_ Tryz.func215 (by kernel_rfl) rfl #[.slice A0_2 l0_2.length c0_2] (by rfl) rfl rfl (by (try simp only [List.map_toArray, List.map_cons, List.map_nil]); first | done | rfl | (simp only [List.length_drop, List.length_take]; rfl)) ?_
 with_reducible refine (Zce.calls _ _ l0_2 t103 _ ?side1 ?side2 A2.out).mono ?_
 (case side1 => repeat (first | exact (Kd.C_below HR0_2.out HB.out) | (with_reducible refine Kd.C_alloc ?_ _) | (with_reducible refine Kd.C_drewN ?_ _) | (with_reducible refine Kd.C_drew ?_)))
 (case side2 => exact HC0_2.out)
 rintro e w6 ⟨v104, rfl, ho0, hb⟩
 refine ⟨_, rfl, ?_⟩
 have n0_ := Zad.mk (Kd.R_lower ho0 (Zak (by with_reducible repeat first | exact HB.out | apply Zac | apply Zaa | apply Zab | refine Zah ?_ E01.out | refine Zah ?_ E02.out)))
 have n1_ := Zad.mk (Zav (g := g01) (o := .cells #[.int .i64 a0_0, .int .i64 a0_1, .slice A0_2 l0_2.length c0_2] 93 (0, 0)) (by (with_reducible repeat (first | refine Zag ?_ _ | refine Zaj ?_ | refine Zaf ?_ _)); exact K01.out) hb)
 have n2_ := Zad.mk (Zav (g := g02) (o := .cells #[.int .i64 0, .int .i64 0, .slice none 0 0] 93 (0, 0)) (by (with_reducible repeat (first | refine Zag ?_ _ | refine Zaj ?_ | refine Zaf ?_ _)); exact K02.out) hb)
 have n3_ := Zad.mk (Zal (by with_reducible repeat first | exact HB.out | apply Zac | apply Zaa | apply Zab | refine Zah ?_ E01.out | refine Zah ?_ E02.out) hb)
 clear K01
 clear K02
 clear HB
 have HO105 := n0_
 have K01 := n1_
 have K02 := n2_
 have HB := n3_
 clear n0_ n1_ n2_ n3_
 (try clear hb)
 (try clear hb2)
 (try clear hk)
 (try clear hi)
 (try clear ho0)
 obtain ⟨Ao7, co7, eo7⟩ := Kd.R_slice HO105.out
 (first | subst eo7 | (injection eo7 with f1_ f2_ f3_; have f4_ := f1_.symm; have f5_ := f3_.symm; clear f1_ f2_ f3_; subst f4_; subst f5_))
 refine hK.out _ _ ⟨(Zai K01.out 0).trans rfl, (Zai K01.out 1).trans rfl, (Zai K01.out 2).trans rfl⟩ (fun hHeld => ?_)
 clear hK K
 refine norm_ (a' := ?_) ?_ ?_
 rotate_left
 ·show Act.put _ (some 9) _ = _
  simp only [Act.put, List.setIfInBounds_toArray, List.set_cons_zero, List.set_cons_succ, i64_w, i32_w]
  rfl
 refine pure_ (i := 7) (N := some 10) (v := ?_) (a' := ?_) #[true, true, true, true, true, true, true, true, false] rfl rfl (Zb5 HT_.out (by kernel_rfl)) (fun _ _ _ h => h) (Or.inl ⟨by rfl, ?_⟩) ?_ ?_
 rotate_left
 ·intro w'
  go_simp
  with_reducible rfl
 rotate_left
 ·simp only [Act.put, List.setIfInBounds_toArray, List.set_cons_zero, List.set_cons_succ, i64_w, i32_w]
  rfl
 refine one_ (i := 8) (N := none) #[true, true, true, true, true, true, true, true, true] rfl rfl (Zd0 HT_.out (by kernel_rfl)) (by decide) (fun K hK => ?_)
 have hs8 : w6.cell? ⟨g02, 0, none⟩ = some (.int .i64 0) := (Zai K02.out 0).trans rfl
 have hfs8 := Zae K02.out 0
 have hns8_0 := N01_02.out
 have hms8_0 := N02_01.out
 have hs9 : w6.cell? ⟨g02, 1, none⟩ = some (.int .i64 0) := (Zai K02.out 1).trans rfl
 have hfs9 := Zae K02.out 1
 have hns9_0 := N01_02.out
 have hms9_0 := N02_01.out
 have hs10 : w6.cell? ⟨g02, 2, none⟩ = some (.slice none 0 0) := (Zai K02.out 2).trans rfl
 have hfs10 := Zae K02.out 2
 have hns10_0 := N01_02.out
 have hms10_0 := N02_01.out
 refine skip_ (w1 := ?_) (by rfl) rfl ?_ ?_
 rotate_left
 ·go_simp
  rfl
 refine hK.out _ _ ⟨((Zbu (p := ⟨g02, _, none⟩) N01_02.out _).trans (((Zbu (p := ⟨g02, _, none⟩) N01_02.out _).trans (((Zbu (p := ⟨g02, _, none⟩) N01_02.out _).trans (hHeld.1)))))), ((Zbu (p := ⟨g02, _, none⟩) N01_02.out _).trans (((Zbu (p := ⟨g02, _, none⟩) N01_02.out _).trans (((Zbu (p := ⟨g02, _, none⟩) N01_02.out _).trans (hHeld.2.1)))))), ((Zbu (p := ⟨g02, _, none⟩) N01_02.out _).trans (((Zbu (p := ⟨g02, _, none⟩) N01_02.out _).trans (((Zbu (p := ⟨g02, _, none⟩) N01_02.out _).trans (hHeld.2.2))))))⟩ (fun hHeld => ?_)
 clear hK K
 refine done_ (Ze4 HT_.out (by kernel_rfl)) ?_
 try go_wp2
 refine bodyPost_ret (results_cell_row rfl _ _ g02 93 #[.int .i64 a0_0, .int .i64 a0_1, .slice Ao7 t103.length co7] (0, 0) _ rfl (by (with_reducible repeat (first | refine Zag ?_ _ | refine Zaj ?_ | refine Zaf ?_ _)); refine Za1 (cs := #[.int .i64 a0_0, .int .i64 a0_1, .slice none 0 0]) ?_ 2 _ rfl; (with_reducible repeat (first | refine Zag ?_ _ | refine Zaj ?_ | refine Zaf ?_ _)); refine Za1 (cs := #[.int .i64 a0_0, .int .i64 0, .slice none 0 0]) ?_ 1 _ rfl; (with_reducible repeat (first | refine Zag ?_ _ | refine Zaj ?_ | refine Zaf ?_ _)); refine Za1 (cs := #[.int .i64 0, .int .i64 0, .slice none 0 0]) ?_ 0 _ rfl; (with_reducible repeat (first | refine Zag ?_ _ | refine Zaj ?_ | refine Zaf ?_ _)); exact K02.out) Tryz.underlying93 rfl (by kernel_rfl)) rfl ?_
 exact ⟨_, by first | rfl | (simp [Zao, Zan] <;> rfl) | (simp [*, Zao, Zan] <;> rfl), by (with_reducible repeat (first | apply Kd.R_alloc | apply Kd.R_drewN | apply Kd.R_drew)); exact Kd.R_mono (Kd.R_far (p := ⟨g02, 2, none⟩) (Kd.R_far (p := ⟨g02, 1, none⟩) (Kd.R_far (p := ⟨g02, 0, none⟩) (Kd.R_types HO105.out K02.out (by decide)) (fun _ hk => hk.2) (.int .i64 a0_0)) (fun _ hk => hk.2) (.int .i64 a0_1)) (fun _ hk => hk.2) (.slice Ao7 t103.length co7)) (fun _ hk => trivial), by repeat (first | (with_reducible first | exact HB.out | apply Zac | apply Zaa | apply Zab | refine Zah ?_ E01.out | refine Zah ?_ E02.out) | exact HB.out)⟩
def Za5.l0 : Nat → Int → Int → Int → Int → List Int → Option (Int × Int × List Int)
 | 0, _, _, _, _, _ => none
 | k + 1, x10, x11, X090, X091, X092 => if x11 < x10 then (if 0 ≤ x11 then (if x11 < (X092.length : Int) then ((Zc6.f (rd X092 x11)).bind fun t110 => (if t110 = true then (Za5.l0 k x10 (wrap64 (x11 + 1)) X090 X091 (X092.set (x11 : Int).toNat 46)) else (Za5.l0 k x10 (wrap64 (x11 + 1)) X090 X091 X092))) else (none)) else (none)) else (some (X090, X091, X092))
def Za5.f (k : Nat) (a0_0 : Int) (a0_1 : Int) (l0_2 : List Int) : Option (Int × Int × List Int) := (Zcb.f a0_0 a0_1 l0_2).bind fun bt103 => (Za5.l0 k (bt103.2.2.length : Int) 0 bt103.1 bt103.2.1 bt103.2.2)
set_option maxHeartbeats 8000000 in
set_option maxRecDepth 100000 in
theorem Za5.calls (k : Nat) (a0_0 : Int) (a0_1 : Int) (A0_2 : Option Addr) (c0_2 : Nat) (l0_2 : List Int) (r1 : Int) (r2 : Int) (r3 : List Int) (w : World) (hr0_2 : Kd.C (Kd.int .u8) w A0_2 l0_2.length l0_2) (hc0_2 : l0_2.length ≤ c0_2) (h : Za5.f k a0_0 a0_1 l0_2 = some (r1, r2, r3)) :
  Calls Tryz.prog 168 #[.agg #[.int .i64 a0_0, .int .i64 a0_1, .slice A0_2 l0_2.length c0_2]] w fun e w' => ∃ v2_ : Value, e = .returned (.agg #[.int .i64 r1, .int .i64 r2, v2_]) ∧ Kd.R (Kd.int .u8) 5 w' w.heap.size (fun _ => True) v2_ r3 ∧ Below w.heap.size w w' := by
 have hu93 := Tryz.underlying93
 have HR0_2 := Zad.mk hr0_2
 have HC0_2 := Zad.mk hc0_2
 clear hr0_2 hc0_2
 have HB := Zad.mk (Below.refl w.heap.size w)
 have H : ((Zcb.f a0_0 a0_1 l0_2).bind fun bt103 => (Za5.l0 k (bt103.2.2.length : Int) 0 bt103.1 bt103.2.1 bt103.2.2)) = some (r1, r2, r3) := h
 clear h
 replace H := Option.bind_eq_some_iff.mp H
 obtain ⟨⟨t103, t104, t105⟩, A20, H⟩ := H
 replace H : (Za5.l0 k (t105.length : Int) 0 t103 t104 t105) = some (r1, r2, r3) := H
 have A2 := Zad.mk A20
 clear A20
 have H' := Zad.mk H
 clear H
 go_enter Tryz.func168, Tryz.ntmps168
 go_wp2_with (first | ((with_reducible refine Zay (N := 1) rfl ?_); refine Zaz ?hg (N := 1) ?hd (cs := #[.int .i64 a0_0, .int .i64 a0_1, .slice A0_2 l0_2.length c0_2]) (t := 93) ?hr ?_; (case hd => rfl); (case hg => rfl); (case hr => first | (go_simp; done) | (go_simp; rfl)); intro g01 hg w3 hbox hb; have n0_ := Zad.mk (Zal (by with_reducible repeat first | exact HB.out | apply Zac | apply Zaa | apply Zab) hb); have n1_ := Zad.mk (hbox); have n2_ := Zad.mk ((by rw [hg]; exact (Zak (by with_reducible repeat first | exact HB.out | apply Zac | apply Zaa | apply Zab)) : w.heap.size ≤ g01)); have n3_ := n2_; clear HB; have HB := n0_; have K01 := n1_; have W01 := n2_; have E01 := n3_; clear hb hbox hg) | ((with_reducible refine Zay (N := 2) rfl ?_); refine Zaz ?hg (N := 2) ?hd (cs := #[.int .i64 0, .int .i64 0, .slice none 0 0]) (t := 93) ?hr ?_; (case hd => rfl); (case hg => rfl); (case hr => first | (go_simp; done) | (go_simp; rfl)); intro g02 hg w4 hbox hb; have n0_ := Zad.mk (Zav (g := g01) (o := .cells #[.int .i64 a0_0, .int .i64 a0_1, .slice A0_2 l0_2.length c0_2] 93 (0, 0)) (by (with_reducible repeat (first | refine Zag ?_ _ | refine Zaj ?_ | refine Zaf ?_ _)); exact K01.out) hb); have n1_ := Zad.mk (Zal (by with_reducible repeat first | exact HB.out | apply Zac | apply Zaa | apply Zab | refine Zah ?_ E01.out) hb); have n2_ := Zad.mk (hbox); have n3_ := Zad.mk ((by rw [hg]; exact (Zak (by with_reducible repeat first | exact HB.out | apply Zac | apply Zaa | apply Zab | refine Zah ?_ E01.out)) : w.heap.size ≤ g02)); have n4_ := n3_; have n5_ := Zad.mk ((by rw [hg]; exact Nat.ne_of_lt (Zct (g := g01) (o := .cells #[.int .i64 a0_0, .int .i64 a0_1, .slice A0_2 l0_2.length c0_2] 93 (0, 0)) (by (with_reducible repeat (first | refine Zag ?_ _ | refine Zaj ?_ | refine Zaf ?_ _)); exact K01.out)) : g01 ≠ g02)); have n6_ := Zad.mk ((by rw [hg]; exact Nat.ne_of_gt (Zct (g := g01) (o := .cells #[.int .i64 a0_0, .int .i64 a0_1, .slice A0_2 l0_2.length c0_2] 93 (0, 0)) (by (with_reducible repeat (first | refine Zag ?_ _ | refine Zaj ?_ | refine Zaf ?_ _)); exact K01.out)) : g02 ≠ g01)); clear K01; clear HB; have K01 := n0_; have HB := n1_; have K02 := n2_; have W02 := n3_; have E02 := n4_; have N01_02 := n5_; have N02_01 := n6_; clear hb hbox hg; have hnb5 := N01_02.out; have hnc5 := N02_01.out; have hcz6_0 : w4.cell? ⟨g01, 0, none⟩ = some (.int .i64 a0_0) := (Zai K01.out 0).trans rfl; have hcz6_1 : w4.cell? ⟨g01, 1, none⟩ = some (.int .i64 a0_1) := (Zai K01.out 1).trans rfl; have hcz6_2 : w4.cell? ⟨g01, 2, none⟩ = some (.slice A0_2 l0_2.length c0_2) := (Zai K01.out 2).trans rfl; have hfz6_0 := Zae K01.out 0; have hfz6_1 := Zae K01.out 1; have hfz6_2 := Zae K01.out 2) | ((with_reducible refine Zau (f := 196) rfl ?_); refine Zbr (some 7) rfl rfl Tryz.func196 (by kernel_rfl) rfl #[.agg #[.int .i64 a0_0, .int .i64 a0_1, .slice A0_2 l0_2.length c0_2]] rfl (by (try simp only [List.map_toArray, List.map_cons, List.map_nil]); first | done | rfl | (simp only [List.length_drop, List.length_take]; rfl)) ?_; (with_reducible refine (Zcb.calls a0_0 a0_1 _ _ l0_2 t103 t104 t105 _ ?side1 ?side2 A2.out).mono ?_); (case side1 => repeat (first | exact (Kd.C_below HR0_2.out HB.out) | (with_reducible refine Kd.C_alloc ?_ _) | (with_reducible refine Kd.C_drewN ?_ _) | (with_reducible refine Kd.C_drew ?_))); (case side2 => exact HC0_2.out); rintro e w7 ⟨v106, rfl, ho0, hb⟩; refine ⟨_, rfl, ?_⟩; have n0_ := Zad.mk (Kd.R_lower ho0 (Zak (by with_reducible repeat first | exact HB.out | apply Zac | apply Zaa | apply Zab | refine Zah ?_ E01.out | refine Zah ?_ E02.out))); have n1_ := Zad.mk (Zav (g := g01) (o := .cells #[.int .i64 a0_0, .int .i64 a0_1, .slice A0_2 l0_2.length c0_2] 93 (0, 0)) (by (with_reducible repeat (first | refine Zag ?_ _ | refine Zaj ?_ | refine Zaf ?_ _)); exact K01.out) hb); have n2_ := Zad.mk (Zav (g := g02) (o := .cells #[.int .i64 0, .int .i64 0, .slice none 0 0] 93 (0, 0)) (by (with_reducible repeat (first | refine Zag ?_ _ | refine Zaj ?_ | refine Zaf ?_ _)); exact K02.out) hb); have n3_ := Zad.mk (Zal (by with_reducible repeat first | exact HB.out | apply Zac | apply Zaa | apply Zab | refine Zah ?_ E01.out | refine Zah ?_ E02.out) hb); clear K01; clear K02; clear HB; have HO107 := n0_; have K01 := n1_; have K02 := n2_; have HB := n3_) | ((with_reducible refine Zay (N := 3) rfl ?_); refine Zaz ?hg (N := 3) ?hd (cs := #[.int .i64 0, .int .i64 0, .slice none 0 0]) (t := 93) ?hr ?_; (case hd => rfl); (case hg => rfl); (case hr => first | (go_simp; done) | (go_simp; rfl)); intro g08 hg w8 hbox hb; have n0_ := Zad.mk (Kd.R_below (by (with_reducible repeat (first | apply Kd.R_alloc | apply Kd.R_drewN | apply Kd.R_drew)); exact HO107.out) hb); have n1_ := Zad.mk (Zav (g := g01) (o := .cells #[.int .i64 a0_0, .int .i64 a0_1, .slice A0_2 l0_2.length c0_2] 93 (0, 0)) (by (with_reducible repeat (first | refine Zag ?_ _ | refine Zaj ?_ | refine Zaf ?_ _)); exact K01.out) hb); have n2_ := Zad.mk (Zav (g := g02) (o := .cells #[.int .i64 0, .int .i64 0, .slice none 0 0] 93 (0, 0)) (by (with_reducible repeat (first | refine Zag ?_ _ | refine Zaj ?_ | refine Zaf ?_ _)); exact K02.out) hb); have n3_ := Zad.mk (Zal (by with_reducible repeat first | exact HB.out | apply Zac | apply Zaa | apply Zab | refine Zah ?_ E01.out | refine Zah ?_ E02.out) hb); have n4_ := Zad.mk (hbox); have n5_ := Zad.mk ((by rw [hg]; exact (Zak (by with_reducible repeat first | exact HB.out | apply Zac | apply Zaa | apply Zab | refine Zah ?_ E01.out | refine Zah ?_ E02.out)) : w.heap.size ≤ g08)); have n6_ := Zad.mk ((by rw [hg]; exact (Zak (by with_reducible repeat first | exact HB.out | apply Zac | apply Zaa | apply Zab | refine Zah ?_ E01.out | refine Zah ?_ E02.out)) : w.heap.size ≤ g08)); have n7_ := Zad.mk ((by rw [hg]; exact Nat.ne_of_lt (Zct (g := g01) (o := .cells #[.int .i64 a0_0, .int .i64 a0_1, .slice A0_2 l0_2.length c0_2] 93 (0, 0)) (by (with_reducible repeat (first | refine Zag ?_ _ | refine Zaj ?_ | refine Zaf ?_ _)); exact K01.out)) : g01 ≠ g08)); have n8_ := Zad.mk ((by rw [hg]; exact Nat.ne_of_gt (Zct (g := g01) (o := .cells #[.int .i64 a0_0, .int .i64 a0_1, .slice A0_2 l0_2.length c0_2] 93 (0, 0)) (by (with_reducible repeat (first | refine Zag ?_ _ | refine Zaj ?_ | refine Zaf ?_ _)); exact K01.out)) : g08 ≠ g01)); have n9_ := Zad.mk ((by rw [hg]; exact Nat.ne_of_lt (Zct (g := g02) (o := .cells #[.int .i64 0, .int .i64 0, .slice none 0 0] 93 (0, 0)) (by (with_reducible repeat (first | refine Zag ?_ _ | refine Zaj ?_ | refine Zaf ?_ _)); exact K02.out)) : g02 ≠ g08)); have n10_ := Zad.mk ((by rw [hg]; exact Nat.ne_of_gt (Zct (g := g02) (o := .cells #[.int .i64 0, .int .i64 0, .slice none 0 0] 93 (0, 0)) (by (with_reducible repeat (first | refine Zag ?_ _ | refine Zaj ?_ | refine Zaf ?_ _)); exact K02.out)) : g08 ≠ g02)); clear HO107; clear K01; clear K02; clear HB; have HO107 := n0_; have K01 := n1_; have K02 := n2_; have HB := n3_; have K08 := n4_; have W08 := n5_; have E08 := n6_; have N01_08 := n7_; have N08_01 := n8_; have N02_08 := n9_; have N08_02 := n10_; clear hb hbox hg; have hnb9 := N08_01.out; have hnc9 := N01_08.out; have hnb10 := N08_02.out; have hnc10 := N02_08.out; have hcz11_0 : w8.cell? ⟨g08, 0, none⟩ = some (.int .i64 0) := (Zai K08.out 0).trans rfl; have hcz11_1 : w8.cell? ⟨g08, 1, none⟩ = some (.int .i64 0) := (Zai K08.out 1).trans rfl; have hcz11_2 : w8.cell? ⟨g08, 2, none⟩ = some (.slice none 0 0) := (Zai K08.out 2).trans rfl; have hfz11_0 := Zae K08.out 0; have hfz11_1 := Zae K08.out 1; have hfz11_2 := Zae K08.out 2; obtain ⟨Ao12, co12, eo12⟩ := Kd.R_slice HO107.out; subst eo12))
 go_loopg [11] k (fun kq v11 w' => ∃ (x11_1 : Int) (X092_1 : List Int) (u109002 : Value), v11 = .int .i64 x11_1 ∧ u109002 = .slice Ao12 X092_1.length co12 ∧ Zad (Za5.l0 kq (t105.length : Int) x11_1 t103 t104 X092_1 = some (r1, r2, r3)) ∧ Zad (kq ≤ k) ∧ Zad (Kd.R (Kd.int .u8) 5 w' w.heap.size (fun _ => True) u109002 X092_1) ∧ Zad (w'.heap[g01]? = some (.cells #[.int .i64 a0_0, .int .i64 a0_1, (.slice A0_2 l0_2.length c0_2)] 93 (0, 0))) ∧ Zad (w'.heap[g02]? = some (.cells #[.int .i64 0, .int .i64 0, (.slice none 0 0)] 93 (0, 0))) ∧ Zad (w'.heap[g08]? = some (.cells #[.int .i64 t103, .int .i64 t104, u109002] 93 (0, 0))) ∧ Zad (Below w.heap.size w w'))
 case atStart => exact ⟨(0), (t105), (.slice Ao12 t105.length co12), (by first | rfl | (simp; done) | (simp [*]; done)), rfl, H', ⟨Nat.le_refl _⟩, ⟨by (with_reducible repeat (first | apply Kd.R_alloc | apply Kd.R_drewN | apply Kd.R_drew)); exact Kd.R_mono (Kd.R_far (p := ⟨g08, 2, none⟩) (Kd.R_far (p := ⟨g08, 1, none⟩) (Kd.R_far (p := ⟨g08, 0, none⟩) (Kd.R_types HO107.out K08.out (by decide)) (fun _ hk => hk.2) (.int .i64 t103)) (fun _ hk => hk.2) (.int .i64 t104)) (fun _ hk => hk.2) (.slice Ao12 t105.length co12)) (fun _ hk => trivial)⟩, ⟨by (with_reducible repeat (first | refine Zag ?_ _ | refine Zaj ?_ | refine Zaf ?_ _)); refine Zb9 ?_ N01_08.out _; (with_reducible repeat (first | refine Zag ?_ _ | refine Zaj ?_ | refine Zaf ?_ _)); refine Zb9 ?_ N01_08.out _; (with_reducible repeat (first | refine Zag ?_ _ | refine Zaj ?_ | refine Zaf ?_ _)); refine Zb9 ?_ N01_08.out _; (with_reducible repeat (first | refine Zag ?_ _ | refine Zaj ?_ | refine Zaf ?_ _)); exact K01.out⟩, ⟨by (with_reducible repeat (first | refine Zag ?_ _ | refine Zaj ?_ | refine Zaf ?_ _)); refine Zb9 ?_ N02_08.out _; (with_reducible repeat (first | refine Zag ?_ _ | refine Zaj ?_ | refine Zaf ?_ _)); refine Zb9 ?_ N02_08.out _; (with_reducible repeat (first | refine Zag ?_ _ | refine Zaj ?_ | refine Zaf ?_ _)); refine Zb9 ?_ N02_08.out _; (with_reducible repeat (first | refine Zag ?_ _ | refine Zaj ?_ | refine Zaf ?_ _)); exact K02.out⟩, ⟨by (with_reducible repeat (first | refine Zag ?_ _ | refine Zaj ?_ | refine Zaf ?_ _)); refine Za1 (cs := #[.int .i64 t103, .int .i64 t104, .slice none 0 0]) ?_ 2 _ rfl; (with_reducible repeat (first | refine Zag ?_ _ | refine Zaj ?_ | refine Zaf ?_ _)); refine Za1 (cs := #[.int .i64 t103, .int .i64 0, .slice none 0 0]) ?_ 1 _ rfl; (with_reducible repeat (first | refine Zag ?_ _ | refine Zaj ?_ | refine Zaf ?_ _)); refine Za1 (cs := #[.int .i64 0, .int .i64 0, .slice none 0 0]) ?_ 0 _ rfl; (with_reducible repeat (first | refine Zag ?_ _ | refine Zaj ?_ | refine Zaf ?_ _)); exact K08.out⟩, ⟨by with_reducible repeat first | exact HB.out | apply Zac | apply Zaa | apply Zab | refine Zah ?_ E01.out | refine Zah ?_ E02.out | refine Zah ?_ E08.out⟩⟩
 case round =>
  clear H'
  obtain ⟨x11_1, X092_1, u109002, rfl, rfl, HA, HK1, HO_109002, K01, K02, K08, HB⟩ := hrel
  cases gk with
  | zero => exact absurd HA.out (by simp [Za5.l0])
  | succ k1 =>
   have H := HA.out
   clear HA
   simp only [Za5.l0] at H
   by_cases c13 : x11_1 < (t105.length : Int)
   ·rw [if_pos c13] at H
    have c13b0 : decide (x11_1 < (t105.length : Int)) = true := decide_eq_true c13
    clear c13
    by_cases c14 : 0 ≤ x11_1
    ·rw [if_pos c14] at H
     have c14b0 : decide (0 ≤ x11_1) = true := decide_eq_true c14
     clear c14
     by_cases c15 : x11_1 < (X092_1.length : Int)
     ·rw [if_pos c15] at H
      have c15b0 : decide (x11_1 < (X092_1.length : Int)) = true := decide_eq_true c15
      clear c15
      replace H := Option.bind_eq_some_iff.mp H
      obtain ⟨t110, A160, H⟩ := H
      replace H : (if t110 = true then (Za5.l0 k1 (t105.length : Int) (wrap64 (x11_1 + 1)) t103 t104 (X092_1.set (x11_1 : Int).toNat 46)) else (Za5.l0 k1 (t105.length : Int) (wrap64 (x11_1 + 1)) t103 t104 X092_1)) = some (r1, r2, r3) := H
      have A16 := Zad.mk A160
      clear A160
      by_cases c17 : t110 = true
      ·subst c17
       have H1 : (Za5.l0 k1 (t105.length : Int) (wrap64 (x11_1 + 1)) t103 t104 (X092_1.set (x11_1 : Int).toNat 46)) = some (r1, r2, r3) := by rw [if_pos rfl] at H; exact H
       clear H
       have H := H1
       clear H1
       obtain ⟨y111, hy111⟩ : ∃ y_ : List Int, y_ = (X092_1.set (x11_1 : Int).toNat 46) := ⟨_, rfl⟩
       replace H : (Za5.l0 k1 (t105.length : Int) (wrap64 (x11_1 + 1)) t103 t104 y111) = some (r1, r2, r3) := by first | (rw [hy111]; with_reducible exact H) | (have H2_ := (Option.bind_some _ _).symm.trans H; rw [hy111]; with_reducible exact H2_) | (have H2_ := (Option.bind_some _ _).symm.trans H; with_reducible exact H2_) | with_reducible exact H | (rw [hy111]; exact H) | exact H
       have Ny111 := Zad.mk hy111
       clear hy111
       have H' := Zad.mk H
       clear H
       have hnb19 := N08_01.out
       have hnc19 := N01_08.out
       have hnb20 := N08_02.out
       have hnc20 := N02_08.out
       have hcz21_0 : wr.cell? ⟨g08, 0, none⟩ = some (.int .i64 t103) := (Zai K08.out 0).trans rfl
       have hcz21_1 : wr.cell? ⟨g08, 1, none⟩ = some (.int .i64 t104) := (Zai K08.out 1).trans rfl
       have hcz21_2 : wr.cell? ⟨g08, 2, none⟩ = some (.slice Ao12 X092_1.length co12) := (Zai K08.out 2).trans rfl
       have hfz21_0 := Zae K08.out 0
       have hfz21_1 := Zae K08.out 1
       have hfz21_2 := Zae K08.out 2
       skip
       have p109 : 0 ≤ (x11_1 : Int) := of_decide_eq_true (by first | (with_reducible assumption) | assumption)
       have q109 : x11_1 < (X092_1.length : Int) := of_decide_eq_true (by first | (with_reducible assumption) | assumption)
       obtain ⟨ad109, e109, hx109_0⟩ := Kd.at_int (Kd.R_reads' HO_109002.out).2.2 x11_1 p109 q109
       cases e109
       replace p109 := eq_true p109
       replace q109 := eq_true q109
       have q9_ := eq_true (show x11_1 < (t105.length : Int) from of_decide_eq_true (by first | (with_reducible assumption) | assumption))
       go_wp2_with (first | ((with_reducible refine Zau (f := 134) rfl ?_); refine Zbr (some 17) rfl rfl Tryz.func134 (by kernel_rfl) rfl #[.int .u8 (rd X092_1 x11_1)] rfl (by (try simp only [List.map_toArray, List.map_cons, List.map_nil]); first | done | rfl | (simp only [List.length_drop, List.length_take]; rfl)) ?_; (with_reducible refine (Zc6.calls (rd X092_1 x11_1) true _ A16.out).mono ?_); rintro e w' ⟨rfl, ⟨nd, rfl⟩⟩; refine ⟨_, rfl, ?_⟩; (try (rw [Zfb wr]; generalize hq_ : World.drewN wr _ = wr; have n0_ : Zad (Kd.R (Kd.int .u8) 5 wr w.heap.size (fun _ => True) (.slice (some ad109) X092_1.length co12) X092_1) := ⟨by rw [← hq_]; exact (by (with_reducible repeat (first | apply Kd.R_alloc | apply Kd.R_drewN | apply Kd.R_drew)); exact HO_109002.out)⟩; have n1_ : Zad (wr.heap[g01]? = some (.cells #[.int .i64 a0_0, .int .i64 a0_1, .slice A0_2 l0_2.length c0_2] 93 (0, 0))) := ⟨by rw [← hq_]; exact (by (with_reducible repeat (first | refine Zag ?_ _ | refine Zaj ?_ | refine Zaf ?_ _)); exact K01.out)⟩; have n2_ : Zad (wr.heap[g02]? = some (.cells #[.int .i64 0, .int .i64 0, .slice none 0 0] 93 (0, 0))) := ⟨by rw [← hq_]; exact (by (with_reducible repeat (first | refine Zag ?_ _ | refine Zaj ?_ | refine Zaf ?_ _)); exact K02.out)⟩; have n3_ : Zad (wr.heap[g08]? = some (.cells #[.int .i64 t103, .int .i64 t104, .slice (some ad109) X092_1.length co12] 93 (0, 0))) := ⟨by rw [← hq_]; exact (by (with_reducible repeat (first | refine Zag ?_ _ | refine Zaj ?_ | refine Zaf ?_ _)); exact K08.out)⟩; have n4_ : Zad (Below w.heap.size w wr) := ⟨by rw [← hq_]; exact (by with_reducible repeat first | exact HB.out | apply Zac | apply Zaa | apply Zab | refine Zah ?_ E01.out | refine Zah ?_ E02.out | refine Zah ?_ E08.out)⟩; clear HO_109002 K01 K02 K08 HB hq_; have HO_109002 := n0_; have K01 := n1_; have K02 := n2_; have K08 := n3_; have HB := n4_)); have hzz2 : wr.cell? ⟨g08, 2, none⟩ = some (.slice (some ad109) X092_1.length co12) := (Zai K08.out 2).trans rfl; have p18 : 0 ≤ (x11_1 : Int) := of_decide_eq_true (by first | (with_reducible assumption) | assumption); have q18 : (x11_1 : Int) < ((X092_1.length : Int) : Int) := of_decide_eq_true (by first | (with_reducible assumption) | assumption); obtain ⟨go18, co18, eo18, gb18, gl18, cl18, HG18⟩ := Kd.R_form HO_109002.out (by omega); (first | cases eo18 | (injection eo18 with ea_ en_ ec_; (first | subst ea_ | (injection ea_ with ea_; subst ea_)); subst ec_; clear en_)); have GB18 := Zad.mk gb18; have GG18 := Zad.mk HG18; clear gb18 gl18 HG18; (first | simp only [Zfx] at hx109_0 | skip); obtain ⟨hx18_0, hf18_0⟩ := Kd.R_celln 0 HO_109002.out (x11_1 : Int) p18 q18; replace p18 := eq_true p18; replace q18 := eq_true q18; obtain ⟨hy23_, hz23_⟩ := Kd.R_celln 0 HO_109002.out (x11_1 : Int) (of_decide_eq_true (by first | (with_reducible assumption) | assumption)) (of_decide_eq_true (by first | (with_reducible assumption) | assumption)); have HP23 := Kd.R_putg HO_109002.out (x11_1 : Int) 46) | ((with_reducible refine Zd3 (t := 5) (p := 21) rfl ?_); refine Zdq (t := 5) (p := 21) (v := ?vo_w24) (w1 := (wr.setCell ⟨go18, (x11_1 : Int).toNat, none⟩ (.int .u8 46))) ?hg ?ho ?hn ?hr ?_; (case ho => rfl); (case hg => rfl); (case hn => rfl); (case hr => first | (go_simp; done) | (go_simp; rfl)); intro w24 hw; have hg : wr.grownBy w24 (some go18) := (by rw [hw]; exact HP23.2); have hp_ : Kd.R (Kd.int .u8) 5 w24 w.heap.size (fun _ => True) (.slice (some ⟨go18, 0, none⟩) X092_1.length co12) y111 := (by rw [hw, Ny111.out]; exact HP23.1); clear HP23; have n0_ := Zad.mk (hp_); have n1_ := Zad.mk (Zbf (g := g01) (o := .cells #[.int .i64 a0_0, .int .i64 a0_1, .slice A0_2 l0_2.length c0_2] 93 (0, 0)) (by (with_reducible repeat (first | refine Zag ?_ _ | refine Zaj ?_ | refine Zaf ?_ _)); exact K01.out) hg (Kd.R_ne HO_109002.out K01.out (by decide))); have n2_ := Zad.mk (Zbf (g := g02) (o := .cells #[.int .i64 0, .int .i64 0, .slice none 0 0] 93 (0, 0)) (by (with_reducible repeat (first | refine Zag ?_ _ | refine Zaj ?_ | refine Zaf ?_ _)); exact K02.out) hg (Kd.R_ne HO_109002.out K02.out (by decide))); have n3_ := Zad.mk (Zbf (g := g08) (o := .cells #[.int .i64 t103, .int .i64 t104, .slice (some ⟨go18, 0, none⟩) X092_1.length co12] 93 (0, 0)) (by (with_reducible repeat (first | refine Zag ?_ _ | refine Zaj ?_ | refine Zaf ?_ _)); exact K08.out) hg (Kd.R_ne HO_109002.out K08.out (by decide))); have n4_ := Zad.mk ((by rw [hw]; exact Zah (HB.out) GB18.out : Below w.heap.size w w24)); clear HO_109002; clear K01; clear K02; clear K08; clear HB; have HO_109002 := n0_; have K01 := n1_; have K02 := n2_; have K08 := n3_; have HB := n4_; clear hg hw hp_))
       go_roundg k1
       case measure => have := HK1.out; omega
       case rel => exact ⟨(wrap64 (x11_1 + 1)), (y111), (.slice (some ⟨go18, 0, none⟩) X092_1.length co12), (by first | rfl | (simp; done) | (simp [*]; done)), (by first | rfl | (rw [Ny111.out, List.length_set])), H', ⟨by have := HK1.out; omega⟩, ⟨by (with_reducible repeat (first | apply Kd.R_alloc | apply Kd.R_drewN | apply Kd.R_drew)); exact HO_109002.out⟩, ⟨by (with_reducible repeat (first | refine Zag ?_ _ | refine Zaj ?_ | refine Zaf ?_ _)); exact K01.out⟩, ⟨by (with_reducible repeat (first | refine Zag ?_ _ | refine Zaj ?_ | refine Zaf ?_ _)); exact K02.out⟩, ⟨by (with_reducible repeat (first | refine Zag ?_ _ | refine Zaj ?_ | refine Zaf ?_ _)); exact K08.out⟩, ⟨by with_reducible repeat first | exact HB.out | apply Zac | apply Zaa | apply Zab | refine Zah ?_ E01.out | refine Zah ?_ E02.out | refine Zah ?_ E08.out⟩⟩
      ·replace c17 := Bool.eq_false_iff.mpr c17
       subst c17
       have H1 : (Za5.l0 k1 (t105.length : Int) (wrap64 (x11_1 + 1)) t103 t104 X092_1) = some (r1, r2, r3) := by rw [if_neg (show ¬ (false = true) by decide)] at H; exact H
       clear H
       have H := H1
       clear H1
       have H' := Zad.mk H
       clear H
       have hnb25 := N08_01.out
       have hnc25 := N01_08.out
       have hnb26 := N08_02.out
       have hnc26 := N02_08.out
       have hcz27_0 : wr.cell? ⟨g08, 0, none⟩ = some (.int .i64 t103) := (Zai K08.out 0).trans rfl
       have hcz27_1 : wr.cell? ⟨g08, 1, none⟩ = some (.int .i64 t104) := (Zai K08.out 1).trans rfl
       have hcz27_2 : wr.cell? ⟨g08, 2, none⟩ = some (.slice Ao12 X092_1.length co12) := (Zai K08.out 2).trans rfl
       have hfz27_0 := Zae K08.out 0
       have hfz27_1 := Zae K08.out 1
       have hfz27_2 := Zae K08.out 2
       skip
       have p109 : 0 ≤ (x11_1 : Int) := of_decide_eq_true (by first | (with_reducible assumption) | assumption)
       have q109 : x11_1 < (X092_1.length : Int) := of_decide_eq_true (by first | (with_reducible assumption) | assumption)
       obtain ⟨ad109, e109, hx109_0⟩ := Kd.at_int (Kd.R_reads' HO_109002.out).2.2 x11_1 p109 q109
       cases e109
       replace p109 := eq_true p109
       replace q109 := eq_true q109
       have q9_ := eq_true (show x11_1 < (t105.length : Int) from of_decide_eq_true (by first | (with_reducible assumption) | assumption))
       go_wp2_with (first | ((with_reducible refine Zau (f := 134) rfl ?_); refine Zbr (some 17) rfl rfl Tryz.func134 (by kernel_rfl) rfl #[.int .u8 (rd X092_1 x11_1)] rfl (by (try simp only [List.map_toArray, List.map_cons, List.map_nil]); first | done | rfl | (simp only [List.length_drop, List.length_take]; rfl)) ?_; (with_reducible refine (Zc6.calls (rd X092_1 x11_1) false _ A16.out).mono ?_); rintro e w' ⟨rfl, ⟨nd, rfl⟩⟩; refine ⟨_, rfl, ?_⟩))
       go_roundg k1
       case measure => have := HK1.out; omega
       case rel => exact ⟨(wrap64 (x11_1 + 1)), (X092_1), (.slice (some ad109) X092_1.length co12), (by first | rfl | (simp; done) | (simp [*]; done)), (by first | rfl | (rw [Ny111.out, List.length_set])), H', ⟨by have := HK1.out; omega⟩, ⟨by (with_reducible repeat (first | apply Kd.R_alloc | apply Kd.R_drewN | apply Kd.R_drew)); exact HO_109002.out⟩, ⟨by (with_reducible repeat (first | refine Zag ?_ _ | refine Zaj ?_ | refine Zaf ?_ _)); exact K01.out⟩, ⟨by (with_reducible repeat (first | refine Zag ?_ _ | refine Zaj ?_ | refine Zaf ?_ _)); exact K02.out⟩, ⟨by (with_reducible repeat (first | refine Zag ?_ _ | refine Zaj ?_ | refine Zaf ?_ _)); exact K08.out⟩, ⟨by with_reducible repeat first | exact HB.out | apply Zac | apply Zaa | apply Zab | refine Zah ?_ E01.out | refine Zah ?_ E02.out | refine Zah ?_ E08.out⟩⟩
     ·rw [if_neg c15] at H
      exact absurd H (by simp)
    ·rw [if_neg c14] at H
     exact absurd H (by simp)
   ·rw [if_neg c13] at H
    have c13b0 : decide (x11_1 < (t105.length : Int)) = false := decide_eq_false c13
    clear c13
    simp only [Option.some.injEq, Prod.mk.injEq] at H
    obtain ⟨rfl, rfl, rfl⟩ := H
    have hnb29 := N08_01.out
    have hnc29 := N01_08.out
    have hnb30 := N08_02.out
    have hnc30 := N02_08.out
    have hcz31_0 : wr.cell? ⟨g08, 0, none⟩ = some (.int .i64 t103) := (Zai K08.out 0).trans rfl
    have hcz31_1 : wr.cell? ⟨g08, 1, none⟩ = some (.int .i64 t104) := (Zai K08.out 1).trans rfl
    have hcz31_2 : wr.cell? ⟨g08, 2, none⟩ = some (.slice Ao12 X092_1.length co12) := (Zai K08.out 2).trans rfl
    have hfz31_0 := Zae K08.out 0
    have hfz31_1 := Zae K08.out 1
    have hfz31_2 := Zae K08.out 2
    have hnb32 := N02_01.out
    have hnc32 := N01_02.out
    have hcz33_0 : wr.cell? ⟨g02, 0, none⟩ = some (.int .i64 0) := (Zai K02.out 0).trans rfl
    have hcz33_1 : wr.cell? ⟨g02, 1, none⟩ = some (.int .i64 0) := (Zai K02.out 1).trans rfl
    have hcz33_2 : wr.cell? ⟨g02, 2, none⟩ = some (.slice none 0 0) := (Zai K02.out 2).trans rfl
    have hfz33_0 := Zae K02.out 0
    have hfz33_1 := Zae K02.out 1
    have hfz33_2 := Zae K02.out 2
    skip
    go_wp2
    refine bodyPost_ret (results_cell_row rfl _ _ g02 93 #[.int .i64 t103, .int .i64 t104, .slice Ao12 X092_1.length co12] (0, 0) _ rfl (by (with_reducible repeat (first | refine Zag ?_ _ | refine Zaj ?_ | refine Zaf ?_ _)); refine Za1 (cs := #[.int .i64 t103, .int .i64 t104, .slice none 0 0]) ?_ 2 _ rfl; (with_reducible repeat (first | refine Zag ?_ _ | refine Zaj ?_ | refine Zaf ?_ _)); refine Za1 (cs := #[.int .i64 t103, .int .i64 0, .slice none 0 0]) ?_ 1 _ rfl; (with_reducible repeat (first | refine Zag ?_ _ | refine Zaj ?_ | refine Zaf ?_ _)); refine Za1 (cs := #[.int .i64 0, .int .i64 0, .slice none 0 0]) ?_ 0 _ rfl; (with_reducible repeat (first | refine Zag ?_ _ | refine Zaj ?_ | refine Zaf ?_ _)); exact K02.out) Tryz.underlying93 rfl (by kernel_rfl)) rfl ?_
    exact ⟨_, by first | rfl | (simp [Zao, Zan] <;> rfl) | (simp [*, Zao, Zan] <;> rfl), by (with_reducible repeat (first | apply Kd.R_alloc | apply Kd.R_drewN | apply Kd.R_drew)); exact Kd.R_mono (Kd.R_far (p := ⟨g02, 2, none⟩) (Kd.R_far (p := ⟨g02, 1, none⟩) (Kd.R_far (p := ⟨g02, 0, none⟩) (Kd.R_types HO_109002.out K02.out (by decide)) (fun _ hk => hk.2) (.int .i64 t103)) (fun _ hk => hk.2) (.int .i64 t104)) (fun _ hk => hk.2) (.slice Ao12 X092_1.length co12)) (fun _ hk => trivial), by repeat (first | (with_reducible first | exact HB.out | apply Zac | apply Zaa | apply Zab | refine Zah ?_ E01.out | refine Zah ?_ E02.out | refine Zah ?_ E08.out) | exact HB.out)⟩
open Go.Maps
def cellP (cells x0 : List Int) (mv : List (Int × Int)) (left : Lit → Bool) (j : Nat) : Int :=
 match mv.find? (fun p => p.2 == (j : Int) && !left (.int .i64 p.1)) with
 | some p => rd cells p.1
 | none => rd x0 j
def Zdu (cells x0 : List Int) (mv : List (Int × Int)) (left : Lit → Bool) : List Int := (List.range x0.length).map (cellP cells x0 mv left)
def cellC (cells x0 : List Int) (mv : List (Int × Int)) (j : Nat) : Int :=
 match mv.find? (fun p => p.2 == (j : Int)) with
 | some p => rd cells p.1
 | none => rd x0 j
def Zdf (cells x0 : List Int) (mv : List (Int × Int)) : List Int := (List.range x0.length).map (cellC cells x0 mv)
def mvOk (n m : Nat) (mv : List (Int × Int)) : Bool := mv.all (fun p => decide (0 ≤ p.1) && decide (p.1 < n) && decide (0 ≤ p.2) && decide (p.2 < m)) && decide (mv.Pairwise fun p q => p.1 ≠ q.1) && decide (mv.Pairwise fun p q => p.2 ≠ q.2) && decide (0 < m) && decide (n < 4294967296) && decide (m < 4294967296)
theorem Zex {α β : Type} {f : α → β} : ∀ {l : List α}, l.Pairwise (fun p q => f p ≠ f q) → ∀ {p q : α}, p ∈ l → q ∈ l → f p = f q → p = q
 | [], _, p, _, hp, _, _ => by cases hp
 | a :: l, h, p, q, hp, hq, he => by
  obtain ⟨h1, h2⟩ := List.pairwise_cons.1 h
  rcases List.mem_cons.1 hp with e1 | hp2
  ·rcases List.mem_cons.1 hq with e2 | hq2
   ·rw [e1, e2]
   ·exact absurd (e1 ▸ he) (h1 q hq2)
  ·rcases List.mem_cons.1 hq with e2 | hq2
   ·exact absurd (e2 ▸ he.symm) (h1 p hp2)
   ·exact Zex h2 hp2 hq2 he
theorem Zhv {α : Type} {f g : α → Bool} : ∀ {l : List α}, (∀ p ∈ l, f p = g p) → l.find? f = l.find? g
 | [], _ => rfl
 | a :: l, h => by
  simp only [List.find?_cons, h a (List.mem_cons_self ..)]
  rw [Zhv (fun p hp => h p (List.mem_cons_of_mem _ hp))]
theorem Zi5 (x : Int) : ∀ (mv : List (Int × Int)) (D : DataW Unit), IsMap D → Maps.has (mv.foldl (fun D p => D.put (.int .i64 p.1) (.lit (.int .i64 p.2))) D) (.int .i64 x) = (Maps.has D (.int .i64 x) || mv.any (fun p => p.1 == x))
 | [], D, _ => by simp
 | q :: mv, D, h => by
  rw [List.foldl_cons, Zi5 x mv _ (h.put _ _), List.any_cons]
  by_cases hq : q.1 = x
  ·subst hq
   rw [has_put_same h (show WideAt.IsKeyLit (.int .i64 q.1) from trivial)]; simp
  ·rw [has_put_other (by intro e; injection e with _ e; exact hq e.symm)]
   have : (q.1 == x) = false := by simpa using hq
   rw [this, Bool.false_or]
theorem Zk0 (mv : List (Int × Int)) (p : Int × Int) (hp : p ∈ mv) : Maps.has (Zd8 mv) (.int .i64 p.1) = true := by
 rw [Zd8, Zi5 p.1 mv _ isMap_empty]
 simp only [Bool.or_eq_true, List.any_eq_true]
 exact .inr ⟨p, hp, by simp⟩
theorem Zhc (x c : Int) : ∀ (mv : List (Int × Int)) (D : DataW Unit), IsMap D → (∀ zd, (mv.foldl (fun D p => D.put (.int .i64 p.1) (.lit (.int .i64 p.2))) D).atKey (.int .i64 x) zd = .lit (.int .i64 c)) → (x, c) ∈ mv ∨ ∀ zd, D.atKey (.int .i64 x) zd = .lit (.int .i64 c)
 | [], D, _, h => .inr h
 | q :: mv, D, hD, h => by
  rw [List.foldl_cons] at h
  rcases Zhc x c mv _ (hD.put _ _) h with h1 | h1
  ·exact .inl (List.mem_cons_of_mem _ h1)
  ·by_cases hq : q.1 = x
   ·subst hq
    have := h1 .nil
    rw [atKey_put_same hD (show WideAt.IsKeyLit (.int .i64 q.1) from trivial)] at this
    injection this with this
    injection this with _ this
    subst this
    exact .inl (List.mem_cons_self ..)
   ·refine .inr fun zd => ?_
    rw [← h1 zd, atKey_put_other (by intro e; injection e with _ e; exact hq e.symm)]
theorem Zjc (mv : List (Int × Int)) (x c : Int) (h : ∀ zd, (Zd8 mv).atKey (.int .i64 x) zd = .lit (.int .i64 c)) : (x, c) ∈ mv := by
 rcases Zhc x c mv _ isMap_empty h with h1 | h1
 ·exact h1
 ·have := h1 .nil
  rw [atKey_of_not_has (by rfl)] at this
  cases this
theorem rd_nat (l : List Int) (j : Nat) (h : j < l.length) : rd l (j : Int) = l[j] := by simp [rd, List.getD_eq_getElem?_getD, List.getElem?_eq_getElem h]
theorem Zhj (cells x0 : List Int) (mv : List (Int × Int)) : Zdu cells x0 mv (Maps.has (Zd8 mv)) = x0 := by
 apply List.ext_getElem
 ·simp [Zdu]
 ·intro j h1 h2
  simp only [Zdu, List.getElem_map, List.getElem_range, cellP]
  have hf : mv.find? (fun p => p.2 == (j : Int) && !Maps.has (Zd8 mv) (.int .i64 p.1)) = none := by
   rw [List.find?_eq_none]
   intro p hp
   simp [Zk0 mv p hp]
  rw [hf]
  exact rd_nat x0 j h2
theorem Zja (cells x0 : List Int) (mv : List (Int × Int)) (left : Lit → Bool) (h : ∀ kl, left kl = false) : Zdu cells x0 mv left = Zdf cells x0 mv := by
 unfold Zdu Zdf
 refine List.map_congr_left fun j _ => ?_
 simp only [cellP, cellC, h, Bool.not_false, Bool.and_true]
theorem Zil (cells x0 : List Int) (mv : List (Int × Int)) (left : Lit → Bool) (hok : mvOk cells.length x0.length mv = true) (x c : Int) (hm : (x, c) ∈ mv) :
  (Zdu cells x0 mv left).set c.toNat (rd cells x) = Zdu cells x0 mv (fun z => left z && !z.sameKey (.int .i64 x)) := by
 simp only [mvOk, Bool.and_eq_true, decide_eq_true_eq, List.all_eq_true] at hok
 obtain ⟨⟨⟨⟨⟨hall, hd1⟩, hd2⟩, hpos⟩, hcl⟩, hxl⟩ := hok
 obtain ⟨⟨⟨hx0, hx1⟩, hc0⟩, hc1⟩ := hall _ hm
 simp only at hx0 hx1 hc0 hc1
 apply List.ext_getElem
 ·simp [Zdu]
 ·intro j h1 h2
  rw [List.getElem_set]
  simp only [Zdu, List.getElem_map, List.getElem_range]
  by_cases hj : c.toNat = j
  ·rw [if_pos hj]
   simp only [cellP]
   have hcj : c = (j : Int) := by omega
   cases hf : mv.find? (fun p => p.2 == (j : Int) && !(left (.int .i64 p.1) && !(Lit.int .i64 p.1).sameKey (.int .i64 x))) with
   | none =>
    have := List.find?_eq_none.1 hf _ hm
    simp [hcj, Lit.sameKey] at this
   | some p =>
    have hp := List.mem_of_find?_eq_some hf
    have hp2 := List.find?_some hf
    simp only [Bool.and_eq_true, beq_iff_eq] at hp2
    have : p = (x, c) := Zex hd2 hp hm (by simp only; omega)
    rw [this]
  ·rw [if_neg hj]
   simp only [cellP]
   have hf : mv.find? (fun p => p.2 == (j : Int) && !left (.int .i64 p.1)) = mv.find? (fun p => p.2 == (j : Int) && !(left (.int .i64 p.1) && !(Lit.int .i64 p.1).sameKey (.int .i64 x))) := by
    refine Zhv fun p hp => ?_
    by_cases hpj : p.2 = (j : Int)
    ·have hpx : p.1 ≠ x := fun e => by
      have : p = (x, c) := Zex hd1 hp hm (by simpa using e)
      rw [this] at hpj
      simp only at hpj
      omega
     have : (Lit.int .i64 p.1).sameKey (.int .i64 x) = false := by simp [Lit.sameKey, hpx]
     rw [this]; simp
    ·have : (p.2 == (j : Int)) = false := by simpa using hpj
     rw [this]; simp
   rw [hf]
set_option maxHeartbeats 400000 in
set_option maxRecDepth 100000 in
theorem Zf4.calls (k : Nat) (a0_0 : Int) (a0_1 : Int) (A0_2 : Option Addr) (c0_2 : Nat) (l0_2 : List Int) (b n : Nat) (mv : List (Int × Int)) (r1 r2 : Int) (x0 : List Int) (w : World) (hr0_2 : Kd.C (Kd.int .u8) w A0_2 l0_2.length l0_2) (hc0_2 : l0_2.length ≤ c0_2)
  (hown : w.ownsMap Tryz.prog 3 (plainElem Tryz.prog 3) b n (Zd8 mv)) (he : Za5.f k a0_0 a0_1 l0_2 = some (r1, r2, x0)) (hok : mvOk l0_2.length x0.length mv = true) :
  Calls Tryz.prog 108 #[.agg #[.int .i64 a0_0, .int .i64 a0_1, .slice A0_2 l0_2.length c0_2], .map (some b)] w fun e w' => ∃ v2_ : Value, e = .returned (.agg #[.int .i64 r1, .int .i64 r2, v2_]) ∧ Kd.R (Kd.int .u8) 5 w' w.heap.size (fun _ => True) v2_ (Zdf l0_2 x0 mv) ∧ Below w.heap.size w w' := by
 have hbl := hown.lt
 go_enter Tryz.func108, Tryz.ntmps108
 go_wp2_with (first
  | (go_at_call 168; refine (Za5.calls k a0_0 a0_1 A0_2 c0_2 l0_2 r1 r2 x0 _ ?_ hc0_2 he).mono ?_; exact Kd.C_alloc (Kd.C_alloc hr0_2 _) _; rintro e w1 ⟨v, rfl, hR, hb1⟩; obtain ⟨A, c, rfl⟩ := Kd.R_slice hR; have hown1 := ((hown.alloc _).alloc _).kept (w' := w1) (row := none) ⟨hb1.os, hb1.tape, hb1.output, hb1.size, fun k hk _ => hb1.block k hk⟩ (by simp))
  | (at_range; refine wpList_range_own _ rfl _ 122 rfl 3 3 law_int Tryz.underlying122 _ b n _ rfl (hown1.alloc _) ?_; intro w0 hrg0 hg0 hs0; go_frame))
 have hok2 := hok
 simp only [mvOk, Bool.and_eq_true, decide_eq_true_eq, List.all_eq_true] at hok2
 obtain ⟨⟨⟨⟨⟨hall, hd1⟩, hd2⟩, hpos⟩, hcl⟩, hxl⟩ := hok2
 obtain ⟨g, cap, eg, hgb, hgl, _⟩ := Kd.R_form hR hpos
 injection eg with eg _ ec
 subst eg ec
 have e0 : ((w.alloc (.cells #[.int .i64 a0_0, .int .i64 a0_1, .slice A0_2 l0_2.length c0_2] 93)).alloc (.cells #[.int .i64 0, .int .i64 0, .slice none 0 0] 93)).heap.size = w.heap.size + 2 := by simp
 rw [e0] at hgb
 have hsz : w.heap.size + 2 ≤ w1.heap.size := by have := hb1.size; rw [e0] at this; exact this
 have e1 : (w1.alloc (.cells #[.int .i64 r1, .int .i64 r2, .slice (some ⟨g, 0, none⟩) x0.length c] 93)).heap.size = w1.heap.size + 1 := by simp
 rw [e1] at hrg0 hs0 ⊢
 have hold : ∀ k, k < w1.heap.size → w0.heap[k]? = w1.heap[k]? := fun k hk => (hg0.block k (by rw [e1]; omega) (by simp)).trans (Below.heap_alloc _ _ _ hk)
 have BT : w0.heap[w.heap.size]? = some (.cells #[.int .i64 a0_0, .int .i64 a0_1, .slice A0_2 l0_2.length c0_2] 93 (0, 0)) := by
  rw [hold _ (by omega), hb1.block _ (by rw [e0]; omega), Below.heap_alloc _ _ _ (by simp)]
  simpa using heap_alloc_new w _
 have BR : w0.heap[w.heap.size + 1]? = some (.cells #[.int .i64 0, .int .i64 0, .slice none 0 0] 93 (0, 0)) := by
  rw [hold _ (by omega), hb1.block _ (by rw [e0]; omega)]
  have := heap_alloc_new (w.alloc (.cells #[.int .i64 a0_0, .int .i64 a0_1, .slice A0_2 l0_2.length c0_2] 93)) (.cells #[.int .i64 0, .int .i64 0, .slice none 0 0] 93)
  simpa using this
 have BO : w0.heap[w1.heap.size]? = some (.cells #[.int .i64 r1, .int .i64 r2, .slice (some ⟨g, 0, none⟩) x0.length c] 93 (0, 0)) := by
  rw [hg0.block _ (by rw [e1]; omega) (by simp)]
  simpa using heap_alloc_new w1 _
 have hB1 : Below w.heap.size w w1 := ((((Below.refl _ _).alloc (Nat.le_refl _) _).alloc (by simp) _).trans (hb1.mono (by rw [e0]; omega)))
 have hB0 : Below w.heap.size w w0 := (hB1.alloc hB1.size _).grown hg0 (by rw [e1]; omega) (fun k hk => by cases hk)
 have hR0 : Kd.R (Kd.int .u8) 5 w0 w.heap.size (fun k => some k = (Value.slice (some ⟨g, 0, none⟩) x0.length c).ownBlock) (.slice (some ⟨g, 0, none⟩) x0.length c) x0 :=
  Kd.R_lower (Kd.R_step (Kd.R_tight rfl hR) (fun k _ hk => hold k hk)) (by rw [e0]; omega)
 clear hR hb1 hown1 hg0 hold hB1
 have HBT := Zad.mk BT
 have HBR := Zad.mk BR
 have HBO := Zad.mk BO
 clear BT BR BO e0 e1
 go_loopw [6] (fun _ wr => ∃ (left : Lit → Bool) (cnt : Nat), wr.ranges Tryz.prog 3 (plainElem (H := Unit) Tryz.prog 3) b (w1.heap.size + 1) n (Zd8 mv) left cnt ∧
   Kd.R (Kd.int .u8) 5 wr w.heap.size (fun k => some k = (Value.slice (some ⟨g, 0, none⟩) x0.length c).ownBlock) (.slice (some ⟨g, 0, none⟩) x0.length c) (Zdu l0_2 x0 mv left) ∧ Kept w0 wr (fun k => k = g ∨ k = w1.heap.size + 1) ∧ Below w.heap.size w wr)
  (fun _ wr => wr.rangeLeft b (w1.heap.size + 1))
 case atStart => exact ⟨_, _, hrg0, by rw [Zhj]; exact hR0, Kept.refl _ _, hB0⟩
 case round =>
  obtain ⟨left, cnt, hrg, hR, hK, hB⟩ := hrel
  go_wp2_with (at_next; refine wpList_next_ranges_ii _ rfl _ rfl 3 3 .i64 .i64 law_int Tryz.underlying3 Tryz.underlying3 b (w1.heap.size + 1) n _ _ _ rfl hrg ?_ ?_)
  ·intro hc0 hl0
   have bO := Zdg HBO.out hK (by omega)
   have bR := Zdg HBR.out hK (by omega)
   have hz0 : wr.cell? ⟨w1.heap.size, 0, none⟩ = some (.int .i64 r1) := (Zai bO 0).trans rfl
   have hz1 : wr.cell? ⟨w1.heap.size, 1, none⟩ = some (.int .i64 r2) := (Zai bO 1).trans rfl
   have hz2 : wr.cell? ⟨w1.heap.size, 2, none⟩ = some (.slice (some ⟨g, 0, none⟩) x0.length c) := (Zai bO 2).trans rfl
   have hy0 : wr.cell? ⟨w.heap.size + 1, 0, none⟩ = some (.int .i64 0) := (Zai bR 0).trans rfl
   have hy1 : wr.cell? ⟨w.heap.size + 1, 1, none⟩ = some (.int .i64 0) := (Zai bR 1).trans rfl
   have hy2 : wr.cell? ⟨w.heap.size + 1, 2, none⟩ = some (.slice none 0 0) := (Zai bR 2).trans rfl
   have hf0 := Zae bR 0
   have hf1 := Zae bR 1
   have hf2 := Zae bR 2
   go_wp2
   refine bodyPost_ret (results_cell_row rfl _ _ (w.heap.size + 1) 93 #[.int .i64 r1, .int .i64 r2, .slice (some ⟨g, 0, none⟩) x0.length c] (0, 0) _ rfl ?_ Tryz.underlying93 rfl (by kernel_rfl)) rfl ?_
   ·refine Za1 (cs := #[.int .i64 r1, .int .i64 r2, .slice none 0 0]) ?_ 2 _ rfl
    refine Za1 (cs := #[.int .i64 r1, .int .i64 0, .slice none 0 0]) ?_ 1 _ rfl
    exact Za1 (cs := #[.int .i64 0, .int .i64 0, .slice none 0 0]) bR 0 _ rfl
   ·rw [Zja _ _ _ _ hl0] at hR
    have hne : ∀ k, some k = (Value.slice (some ⟨g, 0, none⟩) x0.length c).ownBlock → k ≠ w.heap.size + 1 := fun k hk => by
     simp [Value.ownBlock] at hk; omega
    exact ⟨_, rfl, Kd.R_mono (Kd.R_far (p := ⟨w.heap.size + 1, 2, none⟩) (Kd.R_far (p := ⟨w.heap.size + 1, 1, none⟩) (Kd.R_far (p := ⟨w.heap.size + 1, 0, none⟩) hR hne _) hne _) hne _) (fun _ _ => trivial), ((hB.setCell (Nat.le_succ _) _).setCell (Nat.le_succ _) _).setCell (Nat.le_succ _) _⟩
  ·intro x c' w2 cnt1 hwx hwc hlx hat hrg1 hlt hg1 hs1 hen
   have hmem := Zjc mv x c' hat
   obtain ⟨⟨⟨hx0, hx1⟩, hc0⟩, hc1⟩ := hall _ hmem
   have hK2 : Kept w0 w2 (fun k => k = g ∨ k = w1.heap.size + 1) := Kept.of_grown hg1 hK (fun k hk => by injection hk with hk; exact .inl (.inr hk.symm))
   have hB2 : Below w.heap.size w w2 := hB.grown hg1 hB.size (fun k hk => by injection hk with hk; omega)
   have hR2 := Kd.R_grown hR hg1 (fun k hk e => by rw [hk] at e; simp [Value.ownBlock] at e; omega)
   have bO := Zdg HBO.out hK2 (by omega)
   have bT := Zdg HBT.out hK2 (by omega)
   have hz2 : w2.cell? ⟨w1.heap.size, 2, none⟩ = some (.slice (some ⟨g, 0, none⟩) x0.length c) := (Zai bO 2).trans rfl
   have ht2 : w2.cell? ⟨w.heap.size, 2, none⟩ = some (.slice A0_2 l0_2.length c0_2) := (Zai bT 2).trans rfl
   obtain ⟨ad4, e4, hy4⟩ := Kd.at_int hr0_2 x hx0 hx1
   subst e4
   replace hy4 := (hB2.cell (World.block_lt_of_cell? w _ hy4)).trans hy4
   obtain ⟨hg4, hf4⟩ := Kd.R_celln 0 hR2 c' hc0 hc1
   have p1 := eq_true hx0
   have q1 := eq_true hx1
   have p2 := eq_true hc0
   have q2 := eq_true hc1
   have HP := Kd.R_putg hR2 c' (rd l0_2 x)
   rw [Zil _ _ _ _ hok _ _ hmem] at HP
   have HPA := Zad.mk HP
   clear HP
   go_wp2
   go_region
   have hg3 : w2.grownBy ((w2.setCell ⟨g, c'.toNat, none⟩ (.int .u8 (rd l0_2 x))).drew) (some g) := ⟨HPA.out.2.os, HPA.out.2.tape, HPA.out.2.output, HPA.out.2.size, HPA.out.2.block⟩
   have hrg3 := hrg1.kept hg3 (fun e => by have := Option.some.inj e; omega) (fun e => by have := Option.some.inj e; omega)
   go_wp2
   go_roundw
   case rel => exact ⟨_, cnt1, hrg3, (by exact HPA.out.1), Kept.of_grown hg3 hK2 (fun k hk => by injection hk with hk; exact .inl (.inl hk.symm)), hB2.grown hg3 hB2.size (fun k hk => by injection hk with hk; omega)⟩
   case measure => rw [hrg3.left_eq, hrg.left_eq]; exact hlt
def Zci.f (k : Nat) (a0_0 a0_1 : Int) (l0_2 : List Int) (a1 : Int) : Option (Int × Int × List Int) :=
 (Zat.f k a0_0 a0_1 l0_2 a1).bind fun S => (Ziv l0_2 S).bind fun mv => (Za5.f k a0_0 a0_1 l0_2).bind fun r =>
  if mvOk l0_2.length r.2.2.length mv = true then some (r.1, r.2.1, Zdf l0_2 r.2.2 mv) else none
theorem Zco {B : Nat} {w w1 : World} (h : Below B w.drew w1) : Below B w w1 := ⟨h.os, h.tape, h.output, h.size, h.block⟩
theorem two_old {w w1 : World} {o1 o2 : Obj} (hb : Below ((w.alloc o1).alloc o2).heap.size ((w.alloc o1).alloc o2) w1) :
  w1.heap[w.heap.size]? = some o1 ∧ w1.heap[w.heap.size + 1]? = some o2 ∧ Below w.heap.size w w1 ∧ w.heap.size + 2 ≤ w1.heap.size := by
 have e0 : ((w.alloc o1).alloc o2).heap.size = w.heap.size + 2 := by simp
 refine ⟨?_, ?_, (((Below.refl _ _).alloc (Nat.le_refl _) _).alloc (by simp) _).trans (hb.mono (by rw [e0]; omega)), by have := hb.size; rw [e0] at this; exact this⟩
 ·rw [hb.block _ (by rw [e0]; omega), Below.heap_alloc _ _ _ (by simp)]
  simpa using heap_alloc_new w o1
 ·rw [hb.block _ (by rw [e0]; omega)]
  simpa using heap_alloc_new (w.alloc o1) o2
set_option maxHeartbeats 400000 in
set_option maxRecDepth 100000 in
theorem Zci.calls (k : Nat) (a0_0 : Int) (a0_1 : Int) (A0_2 : Option Addr) (c0_2 : Nat) (l0_2 : List Int) (a1 : Int) (r1 : Int) (r2 : Int) (r3 : List Int) (w : World) (hr0_2 : Kd.C (Kd.int .u8) w A0_2 l0_2.length l0_2) (hc0_2 : l0_2.length ≤ c0_2) (h : Zci.f k a0_0 a0_1 l0_2 a1 = some (r1, r2, r3)) :
  Calls Tryz.prog 70 #[.agg #[.int .i64 a0_0, .int .i64 a0_1, .slice A0_2 l0_2.length c0_2], .int .u8 a1] w fun e w' => ∃ v2_ : Value, e = .returned (.agg #[.int .i64 r1, .int .i64 r2, v2_]) ∧ Kd.R (Kd.int .u8) 5 w' w.heap.size (fun _ => True) v2_ r3 ∧ Below w.heap.size w w' := by
 unfold Zci.f at h
 obtain ⟨S, hS, h⟩ := Option.bind_eq_some_iff.mp h
 obtain ⟨mv, hmv, h⟩ := Option.bind_eq_some_iff.mp h
 obtain ⟨⟨q1, q2, x0⟩, he, h⟩ := Option.bind_eq_some_iff.mp h
 simp only at h
 split at h
 case isFalse => cases h
 rename_i hok
 simp only [Option.some.injEq, Prod.mk.injEq] at h
 obtain ⟨rfl, rfl, rfl⟩ := h
 go_enter Tryz.func70, Tryz.ntmps70
 go_wp2
 have hr0 : Kd.C (Kd.int .u8) ((w.alloc (.cells #[.int .i64 a0_0, .int .i64 a0_1, .slice A0_2 l0_2.length c0_2] 93)).alloc (.cells #[.int .i64 0, .int .i64 0, .slice none 0 0] 93)) A0_2 l0_2.length l0_2 := Kd.C_alloc (Kd.C_alloc hr0_2 _) _
 go_region_with (first
  | (go_at_call 109; go_must (refine (Zg5.calls k a0_0 a0_1 A0_2 c0_2 l0_2 a1 S mv _ ?_ hc0_2 hS hmv).mono ?_; (first | exact hr0 | exact Kd.C_drew hr0 | exact Kd.C_drew (Kd.C_drew hr0)); rintro e w1 ⟨b, rfl, hb, hown, hb1⟩; obtain ⟨hBX, hRS, hBw, hsz⟩ := two_old (w := w) (o1 := .cells #[.int .i64 a0_0, .int .i64 a0_1, .slice A0_2 l0_2.length c0_2] 93) (o2 := .cells #[.int .i64 0, .int .i64 0, .slice none 0 0] 93) (w1 := w1) (by first | exact hb1 | exact Zco hb1 | exact Zco (Zco hb1)); have hr1 := Kd.C_below hr0_2 hBw; have z0 : w1.cell? ⟨w.heap.size, 0, none⟩ = some (.int .i64 a0_0) := (Zai hBX 0).trans rfl; have z1 : w1.cell? ⟨w.heap.size, 1, none⟩ = some (.int .i64 a0_1) := (Zai hBX 1).trans rfl; have z2 : w1.cell? ⟨w.heap.size, 2, none⟩ = some (.slice A0_2 l0_2.length c0_2) := (Zai hBX 2).trans rfl))
  | (go_at_call 108; go_must (refine (Zf4.calls k a0_0 a0_1 A0_2 c0_2 l0_2 b mv.length mv q1 q2 x0 _ ?_ hc0_2 ?_ he hok).mono ?_; (first | exact hr1 | exact Kd.C_drew hr1 | exact Kd.C_drew (Kd.C_drew hr1)); exact hown; rintro e w2 ⟨v, rfl, hR2, hb2⟩; obtain ⟨Av, cv, rfl⟩ := Kd.R_slice hR2; have hRS2 := (show Below w1.heap.size w1 w2 by first | exact hb2 | exact Zco hb2 | exact Zco (Zco hb2)).block _ (show w.heap.size + 1 < w1.heap.size by omega) |>.trans hRS; have y0 : w2.cell? ⟨w.heap.size + 1, 0, none⟩ = some (.int .i64 0) := (Zai hRS2 0).trans rfl; have y1 : w2.cell? ⟨w.heap.size + 1, 1, none⟩ = some (.int .i64 0) := (Zai hRS2 1).trans rfl; have y2 : w2.cell? ⟨w.heap.size + 1, 2, none⟩ = some (.slice none 0 0) := (Zai hRS2 2).trans rfl; have f0 := Zae hRS2 0; have f1 := Zae hRS2 1; have f2 := Zae hRS2 2)))
 all_goals
  have hR3 : Kd.R (Kd.int .u8) 5 w2 w.heap.size (fun k => w.heap.size + 1 < k) (.slice Av (Zdf l0_2 x0 mv).length cv) (Zdf l0_2 x0 mv) :=
   Kd.R_lower (Kd.R_mono (Kd.R_bound hR2) (fun k hk => Nat.lt_of_lt_of_le (show w.heap.size + 1 < w1.heap.size by omega) hk.2.1)) hBw.size
  have hB2 : Below w.heap.size w w2 := hBw.trans ((show Below w1.heap.size w1 w2 by first | exact hb2 | exact Zco hb2 | exact Zco (Zco hb2)).mono hBw.size)
  go_wp2
  refine bodyPost_ret (results_cell_row rfl _ _ (w.heap.size + 1) 93 #[.int .i64 q1, .int .i64 q2, .slice Av (Zdf l0_2 x0 mv).length cv] (0, 0) _ rfl ?_ Tryz.underlying93 rfl (by kernel_rfl)) rfl ?_
  ·first
   | exact Za1 (cs := #[.int .i64 q1, .int .i64 q2, .slice none 0 0]) (Za1 (cs := #[.int .i64 q1, .int .i64 0, .slice none 0 0]) (Za1 (cs := #[.int .i64 0, .int .i64 0, .slice none 0 0]) hRS2 0 _ rfl) 1 _ rfl) 2 _ rfl
   | exact Zaj (Za1 (cs := #[.int .i64 q1, .int .i64 q2, .slice none 0 0]) (Za1 (cs := #[.int .i64 q1, .int .i64 0, .slice none 0 0]) (Za1 (cs := #[.int .i64 0, .int .i64 0, .slice none 0 0]) hRS2 0 _ rfl) 1 _ rfl) 2 _ rfl)
  ·have hne : ∀ k, w.heap.size + 1 < k → k ≠ w.heap.size + 1 := fun k hk => by omega
   have hR4 := Kd.R_mono (ok' := fun _ => True) (Kd.R_far (p := ⟨w.heap.size + 1, 2, none⟩) (Kd.R_far (p := ⟨w.heap.size + 1, 1, none⟩) (Kd.R_far (p := ⟨w.heap.size + 1, 0, none⟩) hR3 hne (.int .i64 q1)) hne (.int .i64 q2)) hne (.slice Av (Zdf l0_2 x0 mv).length cv)) (fun _ _ => trivial)
   have hB4 := ((hB2.setCell (p := ⟨w.heap.size + 1, 0, none⟩) (Nat.le_succ _) (.int .i64 q1)).setCell (p := ⟨w.heap.size + 1, 1, none⟩) (Nat.le_succ _) (.int .i64 q2)).setCell (p := ⟨w.heap.size + 1, 2, none⟩) (Nat.le_succ _) (.slice Av (Zdf l0_2 x0 mv).length cv)
   first
   | exact ⟨_, rfl, hR4, hB4⟩
   | exact ⟨_, rfl, Kd.R_drew hR4, hB4.drew⟩
attribute [local go_sem] Go.Proofs.YtjohcjkidoalkaaGreatDoor.field_tray0 Go.Proofs.YtjohcjkidoalkaaGreatDoor.field_tray1 Go.Proofs.YtjohcjkidoalkaaGreatDoor.field_tray2
def Zbj.f (k : Nat) (a0_0 : Int) (a0_1 : Int) (l0_2 : List Int) (a1 : Int) : Option (Bool) := (Zci.f k a0_0 a0_1 l0_2 a1).bind fun bt102 => ((Zb7.f bt102.2.2 l0_2).bind fun t107 => (some t107))
def Zbj.T1 : Bool × List (List Nat × List Nat) := (true, [([], []), ([], []), ([0, 1], [0, 1]), ([2], [2]), ([], []), ([4], [4]), ([3, 5, 2], [3, 5]), ([6, 6, 0, 1, 2, 3, 4, 5, 6], [6])])
def Zbj.B1 : List Nat := [0, 0, 3, 7, 0, 16, 63, 127]
theorem Zbj.tab1 : rtab .any (opsOf Tryz.f86 1) = Zbj.T1 := by kernel_rfl
theorem Zbj.bits1 : Zec Zbj.T1.2 Zbj.B1 = true := by kernel_rfl
set_option maxHeartbeats 8000000 in
set_option maxRecDepth 100000 in
theorem Zbj.calls (k : Nat) (a0_0 : Int) (a0_1 : Int) (A0_2 : Option Addr) (c0_2 : Nat) (l0_2 : List Int) (a1 : Int) (r : Bool) (w : World) (hr0_2 : Kd.C (Kd.int .u8) w A0_2 l0_2.length l0_2) (hc0_2 : l0_2.length ≤ c0_2) (h : Zbj.f k a0_0 a0_1 l0_2 a1 = some r) :
  Calls Tryz.prog 86 #[.agg #[.int .i64 a0_0, .int .i64 a0_1, .slice A0_2 l0_2.length c0_2], .int .u8 a1] w fun e w' => e = .returned (.bool r) ∧ Below w.heap.size w w' := by
 have hu93 := Tryz.underlying93
 have HR0_2 := Zad.mk hr0_2
 have HC0_2 := Zad.mk hc0_2
 clear hr0_2 hc0_2
 have HB := Zad.mk (Below.refl w.heap.size w)
 have H : ((Zci.f k a0_0 a0_1 l0_2 a1).bind fun bt102 => ((Zb7.f bt102.2.2 l0_2).bind fun t107 => (some t107))) = some r := h
 clear h
 replace H := Option.bind_eq_some_iff.mp H
 obtain ⟨⟨t102, t103, t104⟩, A30, H⟩ := H
 replace H : ((Zb7.f t104 l0_2).bind fun t107 => (some t107)) = some r := H
 have A3 := Zad.mk A30
 clear A30
 replace H := Option.bind_eq_some_iff.mp H
 obtain ⟨t107, A40, H⟩ := H
 replace H : (some t107) = some r := H
 have A4 := Zad.mk A40
 clear A40
 obtain rfl := Option.some.inj H
 go_enter Tryz.func86, Tryz.ntmps86
 try go_wp2_with (first | ((with_reducible refine Zay (N := 2) rfl ?_); refine Zaz ?hg (N := 2) ?hd (cs := #[.int .i64 a0_0, .int .i64 a0_1, .slice A0_2 l0_2.length c0_2]) (t := 93) ?hr ?_; (case hd => rfl); (case hg => rfl); (case hr => first | (go_simp; done) | (go_simp; rfl)); intro g01 hg w5 hbox hb; have n0_ := Zad.mk (Zal (by with_reducible repeat first | exact HB.out | apply Zac | apply Zaa | apply Zab) hb); have n1_ := Zad.mk (hbox); have n2_ := Zad.mk ((by rw [hg]; exact (Zak (by with_reducible repeat first | exact HB.out | apply Zac | apply Zaa | apply Zab)) : w.heap.size ≤ g01)); have n3_ := n2_; clear HB; have HB := n0_; have K01 := n1_; have W01 := n2_; have E01 := n3_; clear hb hbox hg))
 have n0_ := Zad.mk (Zaj K01.out)
 have n1_ := Zad.mk (Zab HB.out)
 clear K01
 clear HB
 have K01 := n0_
 have HB := n1_
 clear n0_ n1_
 refine Zfe (n := 8) (S := fun w' => w'.cell? ⟨g01, 0, none⟩ = some (.int .i64 a0_0) ∧ w'.cell? ⟨g01, 1, none⟩ = some (.int .i64 a0_1) ∧ w'.cell? ⟨g01, 2, none⟩ = some (.slice A0_2 l0_2.length c0_2)) (ds := []) #[false, false, false, false, false, false, false, false] (by kernel_rfl) rfl rfl ⟨(Zai K01.out 0).trans rfl, (Zai K01.out 1).trans rfl, (Zai K01.out 2).trans rfl⟩ (fun hHeld => ?_); refine Zdv Zbj.tab1 Zbj.bits1 (fun HT_ HW_ => ?_)
 generalize w5.drew = w6 at K01 HB hHeld ⊢
 refine pure_ (i := 1) (N := some 6) (v := ?_) (a' := ?_) #[false, true, false, false, false, false, false, false] rfl rfl (Zb5 HT_.out (by kernel_rfl)) (fun _ _ _ h => h) (Or.inl ⟨by rfl, ?_⟩) ?_ ?_
 rotate_left
 ·intro w'
  go_simp
  with_reducible rfl
 rotate_left
 ·simp only [Act.put, List.setIfInBounds_toArray, List.set_cons_zero, List.set_cons_succ, i64_w, i32_w]
  rfl
 refine pure_ (i := 4) (N := some 9) (v := ?_) (a' := ?_) #[false, true, false, false, true, false, false, false] rfl rfl (Zb5 HT_.out (by kernel_rfl)) (fun _ _ _ h => h) (Or.inl ⟨by rfl, ?_⟩) ?_ ?_
 rotate_left
 ·intro w'
  go_simp
  with_reducible rfl
 rotate_left
 ·simp only [Act.put, List.setIfInBounds_toArray, List.set_cons_zero, List.set_cons_succ, i64_w, i32_w]
  rfl
 refine take_ (i := 0) (N := some 5) (v := ?_) (a' := ?_) #[true, true, false, false, true, false, false, false] rfl rfl (Zdb HT_.out HW_.out (by kernel_rfl)) (fun _ _ _ h => h) (Or.inl ⟨by rfl, ?_⟩) hHeld ?_ ?_
 rotate_left
 ·rintro w' ⟨s0, s1, s2⟩
  go_simp
  with_reducible rfl
 rotate_left
 ·simp only [Act.put, List.setIfInBounds_toArray, List.set_cons_zero, List.set_cons_succ, i64_w, i32_w]
  rfl
 refine take_ (i := 5) (N := some 10) (v := ?_) (a' := ?_) #[true, true, false, false, true, true, false, false] rfl rfl (Zdb HT_.out HW_.out (by kernel_rfl)) (fun _ _ _ h => h) (Or.inl ⟨by rfl, ?_⟩) hHeld ?_ ?_
 rotate_left
 ·rintro w' ⟨s0, s1, s2⟩
  go_simp
  with_reducible rfl
 rotate_left
 ·simp only [Act.put, List.setIfInBounds_toArray, List.set_cons_zero, List.set_cons_succ, i64_w, i32_w]
  rfl
 refine one_ (i := 2) (N := some 7) #[true, true, true, false, true, true, false, false] rfl rfl (Zd0 HT_.out (by kernel_rfl)) (by decide) (fun K hK => ?_)
 refine goes_ Tryz.func70 (by kernel_rfl) rfl #[.agg #[.int .i64 a0_0, .int .i64 a0_1, .slice A0_2 l0_2.length c0_2], .int .u8 a1] (by rfl) rfl rfl (by (try simp only [List.map_toArray, List.map_cons, List.map_nil]); first | done | rfl | (simp only [List.length_drop, List.length_take]; rfl)) ?_
 with_reducible refine (Zci.calls k a0_0 a0_1 _ _ l0_2 a1 t102 t103 t104 _ ?side1 ?side2 A3.out).mono ?_
 (case side1 => repeat (first | exact (Kd.C_below HR0_2.out HB.out) | (with_reducible refine Kd.C_alloc ?_ _) | (with_reducible refine Kd.C_drewN ?_ _) | (with_reducible refine Kd.C_drew ?_)))
 (case side2 => exact HC0_2.out)
 rintro e w7 ⟨v105, rfl, ho0, hb⟩
 refine ⟨_, rfl, ?_⟩
 have n0_ := Zad.mk (Kd.R_lower ho0 (Zak (by with_reducible repeat first | exact HB.out | apply Zac | apply Zaa | apply Zab | refine Zah ?_ E01.out)))
 have n1_ := Zad.mk (Zav (g := g01) (o := .cells #[.int .i64 a0_0, .int .i64 a0_1, .slice A0_2 l0_2.length c0_2] 93 (0, 0)) (by (with_reducible repeat (first | refine Zag ?_ _ | refine Zaj ?_ | refine Zaf ?_ _)); exact K01.out) hb)
 have n2_ := Zad.mk (Zal (by with_reducible repeat first | exact HB.out | apply Zac | apply Zaa | apply Zab | refine Zah ?_ E01.out) hb)
 clear K01
 clear HB
 have HO106 := n0_
 have K01 := n1_
 have HB := n2_
 clear n0_ n1_ n2_
 (try clear hb)
 (try clear hb2)
 (try clear hk)
 (try clear hi)
 (try clear ho0)
 obtain ⟨Ao8, co8, eo8⟩ := Kd.R_slice HO106.out
 (first | subst eo8 | (injection eo8 with f1_ f2_ f3_; have f4_ := f1_.symm; have f5_ := f3_.symm; clear f1_ f2_ f3_; subst f4_; subst f5_))
 refine hK.out _ _ ⟨(Zai K01.out 0).trans rfl, (Zai K01.out 1).trans rfl, (Zai K01.out 2).trans rfl⟩ (fun hHeld => ?_)
 clear hK K
 refine norm_ (a' := ?_) ?_ ?_
 rotate_left
 ·show Act.put _ (some 7) _ = _
  simp only [Act.put, List.setIfInBounds_toArray, List.set_cons_zero, List.set_cons_succ, i64_w, i32_w]
  rfl
 refine pure_ (i := 3) (N := some 8) (v := ?_) (a' := ?_) #[true, true, true, true, true, true, false, false] rfl rfl (Zb5 HT_.out (by kernel_rfl)) (fun _ _ _ h => h) (Or.inl ⟨by rfl, ?_⟩) ?_ ?_
 rotate_left
 ·intro w'
  go_simp
  with_reducible rfl
 rotate_left
 ·simp only [Act.put, List.setIfInBounds_toArray, List.set_cons_zero, List.set_cons_succ, i64_w, i32_w]
  rfl
 refine one_ (i := 6) (N := some 11) #[true, true, true, true, true, true, true, false] rfl rfl (Zd0 HT_.out (by kernel_rfl)) (by decide) (fun K hK => ?_)
 refine goes_ Tryz.func127 (by kernel_rfl) rfl #[.slice Ao8 t104.length co8, .slice A0_2 l0_2.length c0_2] (by rfl) rfl rfl (by (try simp only [List.map_toArray, List.map_cons, List.map_nil]); first | done | rfl | (simp only [List.length_drop, List.length_take]; rfl)) ?_
 with_reducible refine (Zb7.calls _ _ t104 _ _ l0_2 t107 _ ?side1 ?side2 ?side3 ?side4 A4.out).mono ?_
 (case side1 => repeat (first | exact (Kd.R_reads' HO106.out).2.2 | (with_reducible refine Kd.C_alloc ?_ _) | (with_reducible refine Kd.C_drewN ?_ _) | (with_reducible refine Kd.C_drew ?_)))
 (case side2 => exact (Kd.R_reads' HO106.out).2.1)
 (case side3 => repeat (first | exact (Kd.C_below HR0_2.out HB.out) | (with_reducible refine Kd.C_alloc ?_ _) | (with_reducible refine Kd.C_drewN ?_ _) | (with_reducible refine Kd.C_drew ?_)))
 (case side4 => exact HC0_2.out)
 rintro e w' ⟨rfl, ⟨nd, rfl⟩⟩
 refine ⟨_, rfl, ?_⟩
 refine hK.out _ _ ⟨(Zai K01.out 0).trans rfl, (Zai K01.out 1).trans rfl, (Zai K01.out 2).trans rfl⟩ (fun hHeld => ?_)
 clear hK K
 refine norm_ (a' := ?_) ?_ ?_
 rotate_left
 ·show Act.put _ (some 11) _ = _
  simp only [Act.put, List.setIfInBounds_toArray, List.set_cons_zero, List.set_cons_succ, i64_w, i32_w]
  rfl
 refine pure_ (i := 7) (N := some 4) (v := ?_) (a' := ?_) #[true, true, true, true, true, true, true, true] rfl rfl (Zb5 HT_.out (by kernel_rfl)) (fun _ _ _ h => h) (Or.inl ⟨by rfl, ?_⟩) ?_ ?_
 rotate_left
 ·intro w'
  go_simp
  with_reducible rfl
 rotate_left
 ·simp only [Act.put, List.setIfInBounds_toArray, List.set_cons_zero, List.set_cons_succ, i64_w, i32_w]
  rfl
 refine done_ (Ze4 HT_.out (by kernel_rfl)) ?_
 try go_wp2
 go_ret
 exact ⟨by first | rfl | (simp [Zao, Zan] <;> rfl) | (simp [*, Zao, Zan] <;> rfl), by repeat (first | (with_reducible first | exact HB.out | apply Zac | apply Zaa | apply Zab | refine Zah ?_ E01.out) | exact HB.out)⟩
end Go.Proofs.YtjohcjkidoalkaaGreatDoor.PA
namespace Go.Proofs.YtjohcjkidoalkaaGreatDoor
open Go.RowKit Go.Shelf Go.PW.PrintWords Go.PW.PrintLast Go.PW.PrintMore
attribute [local go_sem] Oper.semAt_some
def Keep3 (b Bs Bn : Nat) (W W' : World) : Prop := W'.heap[b]? = W.heap[b]? ∧ W'.heap[Bs]? = W.heap[Bs]? ∧ W'.heap[Bn]? = W.heap[Bn]?
theorem Keep3.refl (b Bs Bn : Nat) (W : World) : Keep3 b Bs Bn W W := ⟨rfl, rfl, rfl⟩
theorem Keep3.trans {b Bs Bn : Nat} {A B C : World} (h : Keep3 b Bs Bn A B) (k : Keep3 b Bs Bn B C) : Keep3 b Bs Bn A C := ⟨k.1.trans h.1, k.2.1.trans h.2.1, k.2.2.trans h.2.2⟩
theorem Keep3.put {b Bs Bn : Nat} {w : World} (h1 : b < w.heap.size) (h2 : Bs < w.heap.size) (h3 : Bn < w.heap.size) (W : World) (l : Nat) (o o' : Obj) (hl : w.heap.size ≤ l) (h : W.heap[l]? = some o) (_ : o.isCells = false) (_ : o.isWalk = false) : Keep3 b Bs Bn W (W.putObj l o') :=
 ⟨World.putObj_heap_other (by omega), World.putObj_heap_other (by omega), World.putObj_heap_other (by omega)⟩
theorem Zg8 {W W' : World} {b : Nat} (h : W'.heap[b]? = W.heap[b]?) (o : Nat) : W'.cell? ⟨b, o, none⟩ = W.cell? ⟨b, o, none⟩ := by
 simp only [World.cell?, h]
theorem chunk_in (F : Fence) (n : Nat) (h5 : F.fn 110) (hro : F.round = none) (a : Option Addr) (len cap : Nat) (wd : Int) (hw : 1 ≤ wd) (w : World) :
  CallsIn F n Tryz.prog 110 #[.slice a len cap, .int .i64 wd] w fun e w' => e = .returned (.func (.func 170) #[] #[.pointer (some ⟨w.heap.size, 0, none⟩), .pointer (some ⟨w.heap.size + 1, 0, none⟩)]) ∧ w' = (w.alloc (.cells #[.slice a len cap] 50)).alloc (.cells #[.int .i64 wd] 3) := by
 have q1 := eq_false (show ¬ (wd < 1) by omega)
 refine callsIn_of_wp Tryz.func110 rfl h5 ?_ hro
 simp only [Tryz.ntmps110, List.size_toArray, List.length_cons, List.length_nil, Nat.reduceAdd, Nat.reduceSub, Array.replicate_succ, Array.replicate_zero, List.push_toArray, List.append_toArray, List.nil_append, List.cons_append]
 gi_wp2
 go_ret
 exact ⟨rfl, rfl⟩
set_option maxRecDepth 100000 in
set_option maxHeartbeats 1000000 in
theorem Zmh (F : Fence) (n : Nat) (h7 : F.fn 170) (hro : F.round = none) (hn : 1 ≤ n) (l Bs Bn b off cap wd m : Nat) (hw : 1 ≤ wd) (hwb : wd ≤ 1000) (hmb : m ≤ 1000) (hcap : m * wd ≤ cap) (J Jx : List (Fin m) → World → Prop) (B : Nat) (hJ : AbidesFrom B J)
  (hY : ∀ pre (x : Fin m) W, J pre W → pre.length < m → YieldAt F (n - 1) Tryz.prog l #[.slice (some ⟨b, off + x.1 * wd, none⟩) wd wd] W fun e W' =>
   (e = .returned (.bool true) ∧ J (pre ++ [x]) W' ∧ Keep3 b Bs Bn W W') ∨ (e = .returned (.bool false) ∧ Jx (pre ++ [x]) W'))
  (W : World) (hBs : W.cell? ⟨Bs, 0, none⟩ = some (.slice (some ⟨b, off, none⟩) (m * wd) cap)) (hBn : W.cell? ⟨Bn, 0, none⟩ = some (.int .i64 wd)) (h0 : J [] W) :
  CallsIn F n Tryz.prog 170 #[.func (.yield l) #[] #[], .pointer (some ⟨Bs, 0, none⟩), .pointer (some ⟨Bn, 0, none⟩)] W fun e W' => (∃ v, e = .returned v) ∧
   ((∃ ys, ys = List.finRange m ∧ J ys W') ∨ (∃ pre, (∃ k, k ≤ m ∧ pre = (List.finRange m).take k) ∧ Jx pre W')) := by
 refine callsIn_of_wp Tryz.func170 rfl h7 ?_ hro
 simp only [Tryz.ntmps170, List.size_toArray, List.length_cons, List.length_nil, Nat.reduceAdd, Nat.reduceSub, Array.replicate_succ, Array.replicate_zero, List.push_toArray, List.append_toArray, List.nil_append, List.cons_append]
 gi_wp2
 gi_loopw [4] (fun i wr => ∃ k : Nat, k ≤ m ∧ i = .int .i64 (k * wd : Nat) ∧ J ((List.finRange m).take k) wr ∧ Keep3 b Bs Bn W wr)
  (fun i _ => m * wd - (intOf i).toNat)
 case atStart => exact ⟨0, Nat.zero_le _, by simp, h0, Keep3.refl _ _ _ _⟩
 case round =>
  obtain ⟨k, hk, rfl, hJs, hnx⟩ := hrel
  have hcs := (Zg8 hnx.2.1 0).trans hBs
  have hcn := (Zg8 hnx.2.2 0).trans hBn
  rcases Nat.lt_or_eq_of_le hk with hlt | heq
  ·have hkw : k * wd + wd ≤ m * wd := by rw [← Nat.succ_mul]; exact Nat.mul_le_mul_right _ hlt
   have hJd : J ((List.finRange m).take k) wr.drew := hJ _ wr wr.drew none hJs ⟨rfl, rfl, rfl, Nat.le_refl _, fun _ _ _ => rfl⟩ (fun r e => by cases e)
   obtain ⟨fn, tmps, assign, body, hy, hR⟩ := hY _ ⟨k, hlt⟩ wr.drew hJd (by simp; omega)
   dsimp only at hy
   have hcs2 : wr.drew.cell? ⟨Bs, 0, none⟩ = _ := hcs
   have hlast : (List.finRange m).take (k + 1) = (List.finRange m).take k ++ [⟨k, hlt⟩] := by
    rw [List.take_add_one]; simp [hlt]
   have q1 := eq_true (show ((k * wd : Nat) : Int) < ((m * wd : Nat) : Int) by omega)
   obtain ⟨i, hi⟩ : ∃ i, i = k * wd := ⟨_, rfl⟩
   rw [← hi] at q1 hkw hy ⊢
   obtain ⟨len, hle⟩ : ∃ len, len = m * wd := ⟨_, rfl⟩
   rw [← hle] at q1 hkw hcs hcs2 hcap ⊢
   have hbig : len ≤ 1000 * 1000 := hle ▸ Nat.mul_le_mul hmb hwb
   have HI := Zad.mk hi
   have HL := Zad.mk hle
   clear hi hle
   have p2 := eq_true (show (0 : Int) ≤ (i : Int) by omega)
   have p3 := eq_true (show (i : Int) ≤ (len : Int) by omega)
   have p4 := eq_true (show (i : Int) ≤ (cap : Int) by omega)
   have p5 := eq_true (show (len : Int) ≤ (cap : Int) by omega)
   have hmin : min (wd : Int) ((len - i : Nat) : Int) = wd := by omega
   have hadd : wrap64 ((i : Int) + (wd : Int)) = ((i + wd : Nat) : Int) := by unfold wrap64; omega
   have p6 := eq_true (show (i : Int) ≤ ((i + wd : Nat) : Int) by omega)
   have p7 := eq_true (show ((i + wd : Nat) : Int) ≤ (cap : Int) by omega)
   gi_wp2
   gi_region
   all_goals gi_wp2
   all_goals
    refine hR.mono ?_
    rintro e W3 (⟨rfl, hJ3, hk3⟩ | ⟨rfl, hJx3⟩)
    ·have hnx3 : Keep3 b Bs Bn W W3 := hnx.trans (show Keep3 b Bs Bn wr W3 from hk3)
     have hcn3 := (Zg8 hnx3.2.2 0).trans hBn
     clear hadd hmin
     gi_wp2
     go_roundw
     case rel => exact ⟨k + 1, by omega, by rw [Nat.succ_mul, ← HI.out, Int.natCast_add], by rw [hlast]; exact hJ3, hnx3⟩
     case measure => simp only [intOf]; omega
    ·gi_wp2
     refine bodyPost_ret (results_none rfl _ _ _) rfl ?_
     exact ⟨⟨_, rfl⟩, .inr ⟨_, ⟨k + 1, by omega, hlast.symm⟩, hJx3⟩⟩
  ·subst heq
   have q1 := eq_false (show ¬ (((k * wd : Nat) : Int) < ((k * wd : Nat) : Int)) by omega)
   gi_wp2
   go_end0
   exact ⟨⟨_, rfl⟩, .inl ⟨(List.finRange k).take k, List.take_of_length_le (by simp), hJs⟩⟩
theorem Zjx (F : Fence) (n : Nat) (h7 : F.fn 170) (hro : F.round = none) (hn : 1 ≤ n) (Bs Bn b off cap wd m : Nat) (hw : 1 ≤ wd) (hwb : wd ≤ 1000) (hmb : m ≤ 1000) (hcap : m * wd ≤ cap) (w : World) (h1 : Bs < w.heap.size) (h2 : Bn < w.heap.size)
  (hcs : w.cell? ⟨Bs, 0, none⟩ = some (.slice (some ⟨b, off, none⟩) (m * wd) cap)) (hcn : w.cell? ⟨Bn, 0, none⟩ = some (.int .i64 wd)) :
  SeqStopsK F n Tryz.prog 170 #[.pointer (some ⟨Bs, 0, none⟩), .pointer (some ⟨Bn, 0, none⟩)] (fun x : Fin m => #[Value.slice (some ⟨b, off + x.1 * wd, none⟩) wd wd]) (Keep3 b Bs Bn) (fun ys => ys = List.finRange m) (fun pre => ∃ k, k ≤ m ∧ pre = (List.finRange m).take k) m w :=
 fun l J Jx W hW hJ hJx hY h0 => Zmh F n h7 hro hn l Bs Bn b off cap wd m hw hwb hmb hcap J Jx W.heap.size hJ hY W ((hW.cell (p := ⟨Bs, 0, none⟩) h1).trans hcs) ((hW.cell (p := ⟨Bn, 0, none⟩) h2).trans hcn) h0
def rowT (wd : Nat) (cells : List Int) (j : Nat) : ByteArray := strOfNums ((cells.drop (j * wd)).take wd)
def rowsT (wd m : Nat) (cells : List Int) : List ByteArray := (List.range m).map (rowT wd cells)
def Zcw.f (a0_0 a0_1 : Int) (l0_2 : List Int) : Option ByteArray :=
 if 1 ≤ a0_0 ∧ 1 ≤ a0_1 ∧ a0_0 ≤ 1000 ∧ a0_1 ≤ 1000 ∧ l0_2.length = a0_1.toNat * a0_0.toNat then strings_Join.f (rowsT a0_0.toNat a0_1.toNat l0_2) ⟨#[47]⟩ else none
theorem Zkd : (Tryz.prog.info? 9).map (fun i => (i.zero, i.size, i.bytes)) = some (some (.string ⟨#[]⟩), 1, 16) := by kernel_rfl
theorem chunk_C {W : World} {b off wd m : Nat} {l : List Int} (hl : l.length = m * wd) (hcell : ∀ (j : Nat) x, l[j]? = some x → W.cell? ⟨b, off + j, none⟩ = some (.int .u8 x)) (x : Nat) (hx : x < m) (hwb : wd ≤ 1000) :
  Kd.C (Kd.int .u8) W (some ⟨b, off + x * wd, none⟩) wd ((l.drop (x * wd)).take wd) := by
 have hkw : x * wd + wd ≤ m * wd := by rw [← Nat.succ_mul]; exact Nat.mul_le_mul_right _ hx
 have hlen : ((l.drop (x * wd)).take wd).length = wd := by rw [List.length_take, List.length_drop]; omega
 refine Kd.C_of_reads (d := (0 : Int)) (h1 := fun _ => rfl) ⟨hlen, by omega, fun hn => ⟨_, rfl, fun j hj => ?_⟩⟩
 have hj' : x * wd + j < l.length := by omega
 have ea : (Addr.add ⟨b, off + x * wd, none⟩ j) = ⟨b, off + (x * wd + j), none⟩ := by
  unfold Addr.add; split
  ·rename_i h; subst h; rfl
  ·simp [Nat.add_assoc]
 rw [ea, hcell (x * wd + j) _ (List.getElem?_eq_getElem hj')]
 simp [List.getD_eq_getElem?_getD, List.getElem?_take, hj, List.getElem?_drop, List.getElem?_eq_getElem hj']
theorem Zlg (w : World) (b off wd m c : Nat) :
  Boxed (((((w.alloc (.cells #[.int .i64 wd, .int .i64 m, .slice (some ⟨b, off, none⟩) (m * wd) c] 93)).alloc (.cells #[] 9)).alloc (.cells #[.slice (some ⟨w.heap.size + 1, 0, none⟩) 0 0] 22)).alloc (.cells #[.slice (some ⟨b, off, none⟩) (m * wd) c] 50)).alloc (.cells #[.int .i64 wd] 3)) (w.heap.size + 2) 22 (.slice (some ⟨w.heap.size + 1, 0, none⟩) 0 0) ∧
  (((((w.alloc (.cells #[.int .i64 wd, .int .i64 m, .slice (some ⟨b, off, none⟩) (m * wd) c] 93)).alloc (.cells #[] 9)).alloc (.cells #[.slice (some ⟨w.heap.size + 1, 0, none⟩) 0 0] 22)).alloc (.cells #[.slice (some ⟨b, off, none⟩) (m * wd) c] 50)).alloc (.cells #[.int .i64 wd] 3)).ownsRow w.heap.size 9 1 (.slice (some ⟨w.heap.size + 1, 0, none⟩) 0 0) 0 [] ∧
  Boxed (((((w.alloc (.cells #[.int .i64 wd, .int .i64 m, .slice (some ⟨b, off, none⟩) (m * wd) c] 93)).alloc (.cells #[] 9)).alloc (.cells #[.slice (some ⟨w.heap.size + 1, 0, none⟩) 0 0] 22)).alloc (.cells #[.slice (some ⟨b, off, none⟩) (m * wd) c] 50)).alloc (.cells #[.int .i64 wd] 3)) (w.heap.size + 3) 50 (.slice (some ⟨b, off, none⟩) (m * wd) c) ∧
  Boxed (((((w.alloc (.cells #[.int .i64 wd, .int .i64 m, .slice (some ⟨b, off, none⟩) (m * wd) c] 93)).alloc (.cells #[] 9)).alloc (.cells #[.slice (some ⟨w.heap.size + 1, 0, none⟩) 0 0] 22)).alloc (.cells #[.slice (some ⟨b, off, none⟩) (m * wd) c] 50)).alloc (.cells #[.int .i64 wd] 3)) (w.heap.size + 4) 3 (.int .i64 wd) ∧
  Below w.heap.size w (((((w.alloc (.cells #[.int .i64 wd, .int .i64 m, .slice (some ⟨b, off, none⟩) (m * wd) c] 93)).alloc (.cells #[] 9)).alloc (.cells #[.slice (some ⟨w.heap.size + 1, 0, none⟩) 0 0] 22)).alloc (.cells #[.slice (some ⟨b, off, none⟩) (m * wd) c] 50)).alloc (.cells #[.int .i64 wd] 3)) ∧
  (((((w.alloc (.cells #[.int .i64 wd, .int .i64 m, .slice (some ⟨b, off, none⟩) (m * wd) c] 93)).alloc (.cells #[] 9)).alloc (.cells #[.slice (some ⟨w.heap.size + 1, 0, none⟩) 0 0] 22)).alloc (.cells #[.slice (some ⟨b, off, none⟩) (m * wd) c] 50)).alloc (.cells #[.int .i64 wd] 3)).heap.size = w.heap.size + 5 := by
 obtain ⟨o1, ho1⟩ : ∃ o, o = Obj.cells #[.int .i64 wd, .int .i64 m, .slice (some ⟨b, off, none⟩) (m * wd) c] 93 := ⟨_, rfl⟩
 rw [← ho1]
 have e1 : (w.alloc o1).heap.size = w.heap.size + 1 := by simp
 have e2 : ((w.alloc o1).alloc (.cells #[] 9)).heap.size = w.heap.size + 2 := by simp
 have e3 : (((w.alloc o1).alloc (.cells #[] 9)).alloc (.cells #[.slice (some ⟨w.heap.size + 1, 0, none⟩) 0 0] 22)).heap.size = w.heap.size + 3 := by simp
 have e4 : ((((w.alloc o1).alloc (.cells #[] 9)).alloc (.cells #[.slice (some ⟨w.heap.size + 1, 0, none⟩) 0 0] 22)).alloc (.cells #[.slice (some ⟨b, off, none⟩) (m * wd) c] 50)).heap.size = w.heap.size + 4 := by simp
 have b2 := Boxed.new ((w.alloc o1).alloc (.cells #[] 9)) 22 (.slice (some ⟨w.heap.size + 1, 0, none⟩) 0 0)
 have b3 := Boxed.new (((w.alloc o1).alloc (.cells #[] 9)).alloc (.cells #[.slice (some ⟨w.heap.size + 1, 0, none⟩) 0 0] 22)) 50 (.slice (some ⟨b, off, none⟩) (m * wd) c)
 have b4 := Boxed.new ((((w.alloc o1).alloc (.cells #[] 9)).alloc (.cells #[.slice (some ⟨w.heap.size + 1, 0, none⟩) 0 0] 22)).alloc (.cells #[.slice (some ⟨b, off, none⟩) (m * wd) c] 50)) 3 (.int .i64 wd)
 rw [e2] at b2
 rw [e3] at b3
 rw [e4] at b4
 refine ⟨(b2.alloc _).alloc _, ?_, b3.alloc _, b4, ?_, by simp⟩
 ·refine ⟨rfl, .inr ⟨w.heap.size + 1, 0, #[], rfl, by omega, ?_, by omega, by unfold maxLen; omega, rfl, rfl⟩⟩
  rw [Below.heap_alloc _ _ _ (by rw [e4]; omega), Below.heap_alloc _ _ _ (by rw [e3]; omega), Below.heap_alloc _ _ _ (by rw [e2]; omega)]
  simpa using heap_alloc_new (w.alloc o1) (.cells #[] 9)
 ·exact (((((Below.refl _ w).alloc (Nat.le_refl _) _).alloc (by rw [e1]; omega) _).alloc (by rw [e2]; omega) _).alloc (by rw [e3]; omega) _).alloc (by rw [e4]; omega) _
set_option maxRecDepth 100000 in
set_option maxHeartbeats 1000000 in
theorem Zcw.calls (a0_0 : Int) (a0_1 : Int) (A0_2 : Option Addr) (c0_2 : Nat) (l0_2 : List Int) (r : ByteArray) (w : World) (hr0_2 : Kd.C (Kd.int .u8) w A0_2 l0_2.length l0_2) (hc0_2 : l0_2.length ≤ c0_2) (h : Zcw.f a0_0 a0_1 l0_2 = some r) :
  Calls Tryz.prog 71 #[.agg #[.int .i64 a0_0, .int .i64 a0_1, .slice A0_2 l0_2.length c0_2]] w fun e w' => e = .returned (.string r) ∧ Below w.heap.size w w' := by
 unfold Zcw.f at h
 split at h
 case isFalse => cases h
 rename_i hok
 obtain ⟨h1, h2, h3, h4, hl⟩ := hok
 obtain ⟨wd, rfl⟩ : ∃ wd : Nat, a0_0 = wd := ⟨a0_0.toNat, by omega⟩
 obtain ⟨m, rfl⟩ : ∃ m : Nat, a0_1 = m := ⟨a0_1.toNat, by omega⟩
 simp only [Int.toNat_natCast] at hl h
 have hw : 1 ≤ wd := by omega
 have hm : 1 ≤ m := by omega
 have hwb : wd ≤ 1000 := by omega
 have hmb : m ≤ 1000 := by omega
 have hpos : 0 < l0_2.length := by rw [hl]; exact Nat.mul_pos hm hw
 obtain ⟨_, _, hx⟩ := Zdt hr0_2
 rcases hx with rfl | ⟨b, off, rfl, hb, hcell⟩
 ·simp at hpos
 obtain ⟨i0, hi, hz0, hz1, hz2⟩ := info_parts Zkd
 rw [hl] at hc0_2 ⊢
 refine (callsIn_wide (n := 3)).1 ?_
 refine callsIn_of_wp_marks Tryz.func71 rfl trivial ?_ rfl
 simp only [Tryz.ntmps71, List.size_toArray, List.length_cons, List.length_nil, Nat.reduceAdd, Nat.reduceSub, Array.replicate_succ, Array.replicate_zero, List.push_toArray, List.append_toArray, List.nil_append, List.cons_append]
 gi_wp2
 refine ⟨trivial, ?_⟩
 refine (chunk_in Fence.wide 2 trivial rfl (some ⟨b, off, none⟩) (m * wd) c0_2 (wd : Int) (by omega) _).mono ?_
 have e3 : (((w.alloc (.cells #[.int .i64 wd, .int .i64 m, .slice (some ⟨b, off, none⟩) (m * wd) c0_2] 93)).alloc (.cells #[] 9)).alloc (.cells #[.slice (some ⟨w.heap.size + 1, 0, none⟩) 0 0] 22)).heap.size = w.heap.size + 3 := by simp
 rw [e3]
 clear e3
 rintro e w' ⟨rfl, rfl⟩
 gi_wp2
 have hb2 := Zlg w b off wd m c0_2
 obtain ⟨bR, hrow0, bS, bN, hB0, hsz⟩ := hb2
 refine wpIn_rangeFunc_ownG rfl (by omega) (gf := 170) (lb := #[.pointer (some ⟨w.heap.size + 3, 0, none⟩), .pointer (some ⟨w.heap.size + 4, 0, none⟩)]) rfl trivial (enters_of Tryz.func170 (by kernel_rfl) rfl)
  (Zjx Fence.wide (3 - 1) trivial rfl (by omega) (w.heap.size + 3) (w.heap.size + 4) b off c0_2 wd m hw hwb hmb hc0_2 _ bS.lt bN.lt bS.cell bN.cell) (fun h k => h.trans k) (Keep3.put (Nat.lt_of_lt_of_le hb hB0.size) bS.lt bN.lt) (Below.refl _ _) (fun _ => rfl)
  (fun (pre : List (Fin m)) W => (∃ v, Boxed W (w.heap.size + 2) 22 v ∧ W.ownsRow w.heap.size 9 1 v pre.length (pre.map fun (x : Fin m) => Value.string (rowT wd l0_2 x.1)) ∧ True) ∧ Boxed W (w.heap.size + 3) 50 (.slice (some ⟨b, off, none⟩) (m * wd) c0_2) ∧ Boxed W (w.heap.size + 4) 3 (.int .i64 wd) ∧ Below w.heap.size w W)
  (fun _ _ _ => False)
  (OwnFrom.and (Own.from (holdsRow_own w.heap.size (w.heap.size + 2) 22 9 1 (fun (pre : List (Fin m)) => pre.length) (fun (pre : List (Fin m)) => pre.map fun (x : Fin m) => Value.string (rowT wd l0_2 x.1)) (fun _ _ => True)) _) (OwnFrom.and (Own.from (boxed_own _ _ (fun _ => _)) _) (OwnFrom.and (Own.from (boxed_own _ _ (fun _ => _)) _) (ownFrom_below (Nat.le_refl _) (by rw [hsz]; omega)))))
  (fun _ _ _ _ _ hs _ _ => hs)
  ⟨⟨_, bR, hrow0, trivial⟩, bS, bN, hB0⟩
  (fun x => { tmps := #[.agg #[.int .i64 wd, .int .i64 m, .slice (some ⟨b, off, none⟩) (m * wd) c0_2], .pointer (some ⟨w.heap.size, 0, none⟩), .string ⟨#[]⟩, .pointer (some ⟨w.heap.size + 1 + 1, 0, none⟩), .slice (some ⟨b, off + x.1 * wd, none⟩) wd wd, .slice (some ⟨w.heap.size + 1, 0, none⟩) 0 0, .pointer (some ⟨w.heap.size, 2, none⟩), .slice (some ⟨b, off, none⟩) (m * wd) c0_2, .pointer (some ⟨w.heap.size, 0, none⟩), .int .i64 wd, .func (.func 170) #[] #[.pointer (some ⟨w.heap.size + 3, 0, none⟩), .pointer (some ⟨w.heap.size + 4, 0, none⟩)], .slice (some ⟨b, off + x.1 * wd, none⟩) wd wd, undef, undef, undef, undef, undef, undef, undef], defers := [] }) ?assign ?body ?done ?stop
 case assign =>
  intro l x W K hK
  gi_wp2
  exact hK
 case body =>
  rintro l pre x W ⟨⟨v, hv, hrow, _⟩, hS, hN, hB⟩ hlt
  have hc := hv.cell
  have hcv := Kd.C_string (P := Tryz.prog) (c := wd) Tryz.underlying50 Tryz.underlying5 Tryz.underlying9 (chunk_C (W := W) hl (fun j x hj => (hB.cell (p := ⟨b, off + j, none⟩) hb).trans (hcell j x hj)) x.1 x.2 hwb)
  gi_wp2_with (gi_at_builtin; refine wpListIn_append_own _ rfl _ _ 22 rfl w.heap.size 9 i0 (.string ⟨#[]⟩) 1 16 Tryz.underlying22 hi hz0 hz1 hz2 rfl (by decide) _ _ _ rfl (hrow.alloc _) ⟨W.heap.size, 0, none⟩ 1 1 [.string (rowT wd l0_2 x.1)] rfl rfl (cell_one_new _ _ _) (by simp [Value.oneCell']) (by unfold maxLen; omega) (by omega) (by have := hB.size; simp; omega) ?_; intro v' w1 hown' hgrow _; obtain ⟨g', cap', rfl⟩ := ownsRow_succ hown'; obtain ⟨hv1, hv2, hr2, hk2, hb2⟩ := hv.appended (by decide) hrow hB.size (Nat.le_add_right _ 2) hown' hgrow; have hc1 := hv1.cell; have hf1 := hv1.frozen; have hS2 := ((hS.alloc _).kept hgrow (hS.not_row (by decide) hrow)).other (B' := w.heap.size + 2) (by omega) (.slice (some ⟨g', 0, none⟩) (pre.length + 1) cap'); have hN2 := ((hN.alloc _).kept hgrow (hN.not_row (by decide) hrow)).other (B' := w.heap.size + 2) (by omega) (.slice (some ⟨g', 0, none⟩) (pre.length + 1) cap'))
  exact ⟨hk2.from _, ⟨hb2.block b hb, Eq.trans hS2 (Eq.symm hS), Eq.trans hN2 (Eq.symm hN)⟩, ⟨_, hv2, by simpa [rowT] using hr2, trivial⟩, hS2, hN2, hB.trans hb2⟩
 case done =>
  rintro D ys W hD rfl ⟨⟨v, hv, hrow, _⟩, hS, hN, hB⟩ hK
  have hrw : (List.finRange m).map (fun (x : Fin m) => Value.string (rowT wd l0_2 x.1)) = encs Value.string (rowsT wd m l0_2) := by
   apply List.ext_getElem
   ·simp [rowsT, encs]
   ·intro j h1 h2
    simp [rowsT, encs]
  have hrl : (List.finRange m).length = (rowsT wd m l0_2).length := by simp [rowsT]
  rw [hrw, hrl] at hrow
  obtain ⟨A, c, rfl, hcl, hC⟩ := Kd.R_reads (Kd.R_of_own (enc := Value.string) (h1 := fun _ => rfl) (ok := fun _ => True) hrow (fun _ _ => trivial))
  have hc := hv.cell
  gi_wp2
  refine ⟨trivial, ?_⟩
  refine (callsIn_wide.2 (strings_Join.calls A c (rowsT wd m l0_2) ⟨#[47]⟩ r W hC hcl h)).mono ?_
  rintro e w2 ⟨rfl, hb2⟩
  have hDl : D < W.heap.size := (Array.getElem?_eq_some_iff.1 hK).1
  have hK2 := (hb2.block D hDl).trans hK
  gi_wp2
  refine ⟨by simp, .inl ⟨_, _, rfl, run_takeDeferred hK2, ?_⟩⟩
  exact ⟨_, results_tmp rfl _ _ _, rfl, (hB.trans (hb2.mono hB.size)).trans (belowK_b (w := w) (Nat.le_refl _) w2 D _ _ (by omega) hK2 rfl rfl)⟩
 case stop =>
  rintro D c pre W _ _ h _
  exact h.elim
end Go.Proofs.YtjohcjkidoalkaaGreatDoor
namespace Go.Proofs.YtjohcjkidoalkaaGreatDoor.PA
open Go.RowKit Go.PW.PrintWords Go.PW.PrintLast Go.PW.PrintMore
def Zek (k : Nat) (a0 a1 : Int) (l : List Int) : List Int → Option Bool
 | [] => some true
 | c :: cs => (Zbj.f k a0 a1 l c).bind fun b => if b = true then Zek k a0 a1 l cs else some false
def Zf8 (k : Nat) (a0 a1 : Int) (l : List Int) (text : ByteArray) : Option (List ByteArray) :=
 (Zek k a0 a1 l (Zc7 text)).bind fun b => if b = true then (Zcw.f a0 a1 l).bind fun s => some [s] else some []
theorem Zev {w w' : World} {base n : Nat} {e : TypeId} {size : Nat} {v : Value} {xs : List Value} (h : w.ownsRow base e size v n xs) (hb : Below w.heap.size w w') : w'.ownsRow base e size v n xs :=
 h.kept (row := none) ⟨hb.os, hb.tape, hb.output, hb.size, fun k hk _ => hb.block k hk⟩ (by
  cases hv : v.ownBlock with
  | none => exact .inl rfl
  | some k => exact .inr (by simp))
set_option maxHeartbeats 1000000 in
set_option maxRecDepth 100000 in
theorem still1.calls (k : Nat) (a0_0 a0_1 : Int) (A0_2 : Option Addr) (c0_2 : Nat) (l0_2 : List Int) (bal : Int) (text : ByteArray) (Bt Bo base : Nat) (v : Value) (out res : List ByteArray) (w : World) (hr0_2 : Kd.C (Kd.int .u8) w A0_2 l0_2.length l0_2) (hc0_2 : l0_2.length ≤ c0_2)
  (hBt : Boxed w Bt 9 (.string text)) (hBo : Boxed w Bo 22 v) (hrow : w.ownsRow base 9 1 v out.length (out.map Value.string)) (hb1 : base ≤ w.heap.size) (hb2 : base ≤ Bo) (hb3 : Bt < base) (hlen : out.length < 1000000) (hts : text.size ≤ 140737488355328) (h : Zf8 k a0_0 a0_1 l0_2 text = some res) :
  Calls Tryz.prog 85 #[.agg #[.int .i64 a0_0, .int .i64 a0_1, .slice A0_2 l0_2.length c0_2], .int .i64 bal, .pointer (some ⟨Bt, 0, none⟩), .pointer (some ⟨Bo, 0, none⟩)] w fun e w' => e = .returned (.tuple #[]) ∧ Boxed w' Bt 9 (.string text) ∧
   ∃ v', Boxed w' Bo 22 v' ∧ w'.ownsRow base 9 1 v' (out ++ res).length ((out ++ res).map Value.string) ∧ Below base w w' ∧ Kept w w' (fun j => j = Bo ∨ some j = v.ownBlock) := by
 obtain ⟨i0, hI0, hI1, hI2, hI3⟩ := info_parts Zkd
 have hcv := fun (w : World) (s : ByteArray) => Lib.run_convert_string_bytes (P := Tryz.prog) w 9 50 5 s Tryz.underlying9 Tryz.underlying50 Tryz.underlying5
 unfold Zf8 at h
 obtain ⟨bb, hall, h⟩ := Option.bind_eq_some_iff.mp h
 have hct := hBt.cell
 have hBtl := hBt.lt
 have hlo := hBo.lt
 go_enter Tryz.func85, Tryz.ntmps85
 go_wp2
 obtain ⟨Wa, hWa⟩ : ∃ Wa, Lib.bytesWorld (w.alloc (.cells #[.int .i64 a0_0, .int .i64 a0_1, .slice A0_2 l0_2.length c0_2] 93)) 5 text = Wa := ⟨_, rfl⟩
 rw [hWa]
 have hBa : Below w.heap.size w Wa := by
  rw [← hWa]
  exact ((Below.refl _ _).alloc (Nat.le_refl _) _).trans ((Lib.bytesWorld_below _ _ _).mono (by simp))
 have hsza : Wa.heap.size = w.heap.size + 2 := by rw [← hWa, Lib.bytesWorld_size]; simp
 have hbx : Wa.heap[w.heap.size]? = some (.cells #[.int .i64 a0_0, .int .i64 a0_1, .slice A0_2 l0_2.length c0_2] 93 (0, 0)) := by
  rw [← hWa, Lib.bytesWorld_at_old _ _ _ _ (by simp)]
  simpa using heap_alloc_new w _
 have hby : ∀ j : Nat, j < text.size → Wa.cell? ⟨w.heap.size + 1, j, none⟩ = some (.int .u8 (rd (Zc7 text) j)) := by
  intro j hj
  have := Lib.bytesWorld_cell (w.alloc (.cells #[.int .i64 a0_0, .int .i64 a0_1, .slice A0_2 l0_2.length c0_2] 93)) 5 text j hj
  rw [hWa] at this
  rw [show (w.alloc (.cells #[.int .i64 a0_0, .int .i64 a0_1, .slice A0_2 l0_2.length c0_2] 93)).heap.size = w.heap.size + 1 by simp] at this
  rw [this]
  simp [rd, Zc7, List.getD_eq_getElem?_getD, hj]
 clear hWa hcv
 have HBY := Zad.mk hby
 clear hby
 go_loopw [11] (fun v11 wr => ∃ i : Nat, i ≤ text.size ∧ v11 = .int .i64 i ∧ Zad (Zek k a0_0 a0_1 l0_2 ((Zc7 text).drop i) = some bb) ∧ Below Wa.heap.size Wa wr)
  (fun v11 _ => text.size - (intOf v11).toNat)
 case atStart => exact ⟨0, Nat.zero_le _, rfl, ⟨by simpa using hall⟩, Below.refl _ _⟩
 case round =>
  obtain ⟨i, hi, rfl, HS, hB⟩ := hrel
  have hbr := (hB.block w.heap.size (by omega)).trans hbx
  have hz0 : wr.cell? ⟨w.heap.size, 0, none⟩ = some (.int .i64 a0_0) := (Zai hbr 0).trans rfl
  have hz1 : wr.cell? ⟨w.heap.size, 1, none⟩ = some (.int .i64 a0_1) := (Zai hbr 1).trans rfl
  have hz2 : wr.cell? ⟨w.heap.size, 2, none⟩ = some (.slice A0_2 l0_2.length c0_2) := (Zai hbr 2).trans rfl
  have hBw : Below w.heap.size w wr := hBa.trans (hB.mono (by omega))
  rcases Nat.lt_or_eq_of_le hi with hlt | heq
  ·have hy := (hB.cell (p := ⟨w.heap.size + 1, i, none⟩) (by show w.heap.size + 1 < _; omega)).trans (HBY.out i hlt)
   have hdr : (Zc7 text).drop i = rd (Zc7 text) i :: (Zc7 text).drop (i + 1) := by
    rw [List.drop_eq_getElem_cons (by rw [Zcd]; exact hlt)]
    simp [rd, List.getD_eq_getElem?_getD, List.getElem?_eq_getElem (show i < (Zc7 text).length by rw [Zcd]; exact hlt)]
   have H := HS.out
   rw [hdr] at H
   simp only [Zek] at H
   obtain ⟨b1, hs1, H⟩ := Option.bind_eq_some_iff.mp H
   have p1 := eq_true (show (0 : Int) ≤ (i : Int) by omega)
   have q1 := eq_true (show (i : Int) < ((text.size : Nat) : Int) by omega)
   clear hdr
   cases b1
   ·simp only [Bool.false_eq_true, if_false, Option.some.injEq] at H
    subst H
    simp only [Bool.false_eq_true, if_false, Option.some.injEq] at h
    subst h
    go_wp2_with (go_at_call 86; refine (Zbj.calls k a0_0 a0_1 A0_2 c0_2 l0_2 _ false _ ?_ hc0_2 hs1).mono ?_; exact Kd.C_below hr0_2 hBw; rintro e w3 ⟨rfl, hb3⟩)
    have hB3 : Below w.heap.size w w3 := hBw.trans (hb3.mono hBw.size)
    refine bodyPost_ret (results_none rfl _ _ _) rfl ?_
    exact ⟨rfl, (hB3.block Bt hBtl).trans hBt, v, (hB3.block Bo hlo).trans hBo, by rw [List.append_nil]; exact Zev hrow hB3, hB3.mono hb1, Kept.of_below hB3 _⟩
   ·simp only [if_true] at H
    have HS2 := Zad.mk H
    clear H
    go_wp2_with (go_at_call 86; refine (Zbj.calls k a0_0 a0_1 A0_2 c0_2 l0_2 _ true _ ?_ hc0_2 hs1).mono ?_; exact Kd.C_below hr0_2 hBw; rintro e w3 ⟨rfl, hb3⟩)
    go_roundw
    case rel => exact ⟨i + 1, by omega, by go_num, HS2, hB.trans (hb3.mono hB.size)⟩
    case measure => simp [intOf]; omega
  ·have q1 := eq_false (show ¬ ((i : Int) < ((text.size : Nat) : Int)) by omega)
   have hbb : bb = true := by
    have H := HS.out
    rw [List.drop_eq_nil_of_le (by rw [Zcd]; omega)] at H
    simpa [Zek] using H.symm
   subst hbb
   simp only [if_true] at h
   obtain ⟨s, htx, h⟩ := Option.bind_eq_some_iff.mp h
   obtain rfl := Option.some.inj h
   have hBo2 : Boxed wr Bo 22 v := (hBw.block Bo hlo).trans hBo
   have hco := hBo2.cell
   have hfo := hBo2.frozen
   have hrC := Kd.C_below hr0_2 hBw
   have hrow2 := Zev hrow hBw
   go_wp2
   go_region_law (first
    | (go_simp; go_at_call 71; go_must (refine (Zcw.calls a0_0 a0_1 A0_2 c0_2 l0_2 s _ ?_ hc0_2 htx).mono ?_; (first | exact hrC | exact Kd.C_drew hrC | exact Kd.C_drew (Kd.C_drew hrC)); rintro e w4 ⟨rfl, hb4⟩; have hb4' : Below wr.heap.size wr w4 := (by first | exact hb4 | exact Zco hb4 | exact Zco (Zco hb4)); have hB4 : Below w.heap.size w w4 := hBw.trans (hb4'.mono hBw.size); have hBo4 : Boxed w4 Bo 22 v := (hB4.block Bo hlo).trans hBo; have hco4 := hBo4.cell; have hco4a := (hBo4.alloc (.cells #[.string s] 9)).cell; have hfo4 := hBo4.frozen; have hrow4 := Zev hrow hB4; have hsz4 := hB4.size))
    | (go_must (refine step_append_lies _ rfl (.tmp 20) (.tmp 23) 22 rfl base 9 i0 (.string ⟨#[]⟩) 1 16 Tryz.underlying22 hI0 hI1 hI2 hI3 rfl (by decide) v out.length (out.map Value.string) rfl (by exact hrow4.alloc _) ⟨w4.heap.size, 0, none⟩ 1 1 [.string s] rfl rfl (World.news_of_block (by simpa using heap_alloc_new w4 _)) (by simp [Value.oneCell']) (by omega) (by unfold maxLen; omega) (by omega) (by simp; omega) _ rfl ?_; intro g cap w5 hown5 hg5 hat5 hlt5; have hn5 : Boxed w5 Bo 22 v := (hBo4.alloc _).kept hg5 (hBo4.not_row (by decide) hrow4); have hc5 := hn5.cell; have hf5 := hn5.frozen)))
   all_goals
    obtain ⟨v5, hv5⟩ : ∃ v5, v5 = Value.slice (some ⟨g, 0, none⟩) (out.length + 1) cap := ⟨_, rfl⟩
    have hG4 : w4.grownBy w5 v.ownBlock := (World.grownBy_alloc w4 _ _).trans hg5
    have hne : some Bt ≠ v.ownBlock := fun e => by have := (hrow4.lt Bt e.symm).1; omega
    have hBt5 : Boxed w5 Bt 9 (.string text) := (show Boxed w4 Bt 9 (.string text) from (hB4.block Bt hBtl).trans hBt).kept hG4 hne
    have hBt6 := hBt5.other (B' := Bo) (by omega) v5
    have hrow6 := hown5.kept (grownBy_setCell' w5 Bo v5) (.inr (hn5.not_row (by decide) hown5).symm)
    have hB6 : Below base w (w5.setCell ⟨Bo, 0, none⟩ v5) := ((hB4.mono hb1).grown hG4 (Nat.le_trans hb1 hB4.size) (fun k e => (hrow4.lt k e).1)).setCell (p := ⟨Bo, 0, none⟩) hb2 v5
    have hK6 : Kept w (w5.setCell ⟨Bo, 0, none⟩ v5) (fun j => j = Bo ∨ some j = v.ownBlock) :=
     (Kept.of_grown hG4 (Kept.of_below hB4 _) (fun k e => .inl (.inr e.symm))).setCell (p := ⟨Bo, 0, none⟩) (.inl (.inl rfl)) v5
    subst hv5
    go_wp2
    go_end0
    exact ⟨rfl, hBt6, _, hn5.set _, by simpa using hrow6, hB6, hK6⟩
theorem i64_and1 (n : Int) : Go.bits .and .i64 n 1 = n % 2 := by
 have h1 : (BitVec.ofInt 64 1).toNat = 2 ^ 1 - 1 := by decide
 have key : (BitVec.ofInt 64 n &&& BitVec.ofInt 64 1).toNat = (n % ((2 ^ 64 : Nat) : Int)).toNat % 2 ^ 1 := by
  rw [BitVec.toNat_and, BitVec.toNat_ofInt, h1, Nat.and_two_pow_sub_one_eq_mod]
 show IntKind.i64.wrap ((BitVec.ofInt 64 n &&& BitVec.ofInt 64 1).toNat : Nat) = n % 2
 rw [key, IntKind.wrap_i64]
 omega
theorem Zkj (n j : Nat) (b : Bool) (h : (Go.bits .and .i64 ((n : Int) / 2 ^ j) 1 == 1) = b) : n.testBit j = b := by
 rw [i64_and1] at h
 rw [← h, Nat.testBit_eq_decide_div_mod_eq]
 have : ((n : Int) / 2 ^ j) = ((n / 2 ^ j : Nat) : Int) := by simp
 rw [this]
 generalize n / 2 ^ j = q
 by_cases hq : q % 2 = 1
 ·have : ((q : Int) % 2) = 1 := by omega
  simp [hq, this]
 ·have : ((q : Int) % 2) = 0 := by omega
  simp [hq, this]
def fillJ (cells list : List Int) (n j : Nat) : List Int := (List.range j).foldl (fun c i => if n.testBit i = true then c.set (rd list i).toNat 111 else c) cells
theorem Zf5 (cells list : List Int) (n j : Nat) : fillJ cells list n (j + 1) = if n.testBit j = true then (fillJ cells list n j).set (rd list j).toNat 111 else fillJ cells list n j := by
 simp [fillJ, List.range_succ, List.foldl_append]
theorem Ze3 (cells list : List Int) (n : Nat) : ∀ j, (fillJ cells list n j).length = cells.length
 | 0 => rfl
 | j + 1 => by rw [Zf5]; split <;> simp [Ze3 cells list n j]
def Zdi (k : Nat) (a0 a1 : Int) (cells list : List Int) (text : ByteArray) : Nat → Option (List ByteArray)
 | 0 => some []
 | n + 1 => (Zdi k a0 a1 cells list text n).bind fun out => (Zf8 k a0 a1 (fillJ cells list n list.length) text).bind fun r => some (out ++ r)
theorem Zh4 {k : Nat} {a0 a1 : Int} {l : List Int} {text : ByteArray} {r : List ByteArray} (h : Zf8 k a0 a1 l text = some r) : r.length ≤ 1 := by
 unfold Zf8 at h
 obtain ⟨b, _, h⟩ := Option.bind_eq_some_iff.mp h
 split at h
 ·obtain ⟨s, _, h⟩ := Option.bind_eq_some_iff.mp h
  obtain rfl := Option.some.inj h
  simp
 ·obtain rfl := Option.some.inj h
  simp
theorem Zfd {k : Nat} {a0 a1 : Int} {cells list : List Int} {text : ByteArray} : ∀ {n : Nat} {out : List ByteArray}, Zdi k a0 a1 cells list text n = some out → out.length ≤ n
 | 0, out, h => by
  obtain rfl := Option.some.inj (show some [] = some out from h)
  simp
 | n + 1, out, h => by
  simp only [Zdi] at h
  obtain ⟨o, ho, h⟩ := Option.bind_eq_some_iff.mp h
  obtain ⟨r, hr, h⟩ := Option.bind_eq_some_iff.mp h
  obtain rfl := Option.some.inj h
  have h1 := Zfd ho
  have h2 := Zh4 hr
  simp; omega
theorem Zho {k : Nat} {a0 a1 : Int} {cells list : List Int} {text : ByteArray} {n : Nat} : ∀ (j : Nat) {out : List ByteArray}, Zdi k a0 a1 cells list text (n + j) = some out → ∃ o, Zdi k a0 a1 cells list text n = some o
 | 0, out, h => ⟨out, h⟩
 | j + 1, out, h => by
  rw [← Nat.add_assoc] at h
  simp only [Zdi] at h
  obtain ⟨o, ho, _⟩ := Option.bind_eq_some_iff.mp h
  exact Zho j ho
theorem rows_ne {w : World} {b1 b2 n1 n2 : Nat} {e1 e2 : TypeId} {s1 s2 : Nat} {v1 v2 : Value} {x1 x2 : List Value} (h1 : w.ownsRow b1 e1 s1 v1 n1 x1) (h2 : w.ownsRow b2 e2 s2 v2 n2 x2) (hne : e1 ≠ e2) (k : Nat) (hk : some k = v1.ownBlock) : some k ≠ v2.ownBlock := by
 intro hk2
 obtain ⟨c1, hc1⟩ := Zef h1 k hk.symm
 obtain ⟨c2, hc2⟩ := Zef h2 k hk2.symm
 rw [hc1] at hc2
 injection hc2 with hc2
 injection hc2 with _ hc2 _
 exact hne hc2
set_option maxHeartbeats 1000000 in
set_option maxRecDepth 100000 in
theorem fillings.calls (k : Nat) (t text : ByteArray) (a0_0 a0_1 : Int) (cells list : List Int) (res : List ByteArray) (Bt Bo base : Nat) (v : Value) (w : World) (hBt : Boxed w Bt 9 (.string text)) (hBo : Boxed w Bo 22 v) (hrow : w.ownsRow base 9 1 v 0 []) (hb1 : base ≤ w.heap.size) (hb2 : base ≤ Bo) (hb3 : Bt < base) (hts : text.size ≤ 140737488355328)
  (hread : Zcs.f k t = some (a0_0, a0_1, cells)) (hind : Zaq.f k a0_0 a0_1 cells = some list) (hll : list.length ≤ 16) (hin : ∀ x ∈ list, 0 ≤ x ∧ x < cells.length) (hcl : cells.length < 1000000) (hall : Zdi k a0_0 a0_1 cells list text (2 ^ list.length) = some res) :
  Calls Tryz.prog 84 #[.string t, .func (.func 85) #[] #[.pointer (some ⟨Bt, 0, none⟩), .pointer (some ⟨Bo, 0, none⟩)]] w fun e w' => e = .returned (.tuple #[]) ∧
   ∃ v', Boxed w' Bo 22 v' ∧ w'.ownsRow base 9 1 v' res.length (res.map Value.string) ∧ Below base w w' := by
 go_enter Tryz.func84, Tryz.ntmps84
 go_wp2_with (first
  | (go_at_call 69; refine (Zcs.calls2 k t a0_0 a0_1 cells w hread).mono ?_; rintro e w1 ⟨g, cap, rfl, hcap, hcm, hg1, hg2, hRF, hB1⟩)
  | (go_at_call 80; refine (Zaq.calls k a0_0 a0_1 _ cap cells list w1 (hRF.C hcm) hcap hind).mono ?_; rintro e w2 ⟨u, rfl, hL, hB2⟩; obtain ⟨Al, cl, rfl⟩ := Kd.R_slice hL))
 have hsh : wrap64 (2 ^ list.length) = ((2 ^ list.length : Nat) : Int) := by
  have h16 : 2 ^ list.length ≤ 65536 := Nat.le_trans (Nat.pow_le_pow_right (by omega) hll) (by decide)
  rw [show ((2 : Int) ^ list.length) = ((2 ^ list.length : Nat) : Int) by simp]
  generalize 2 ^ list.length = p at h16 ⊢
  unfold wrap64; omega
 rw [hsh]
 have hm16 : 2 ^ list.length ≤ 65536 := Nat.le_trans (Nat.pow_le_pow_right (by omega) hll) (by decide)
 obtain ⟨m, hm⟩ : ∃ m, m = 2 ^ list.length := ⟨_, rfl⟩
 rw [← hm] at hall hm16 ⊢
 have HM := Zad.mk hm
 have HALL := Zad.mk hall
 clear hm hsh hall
 have hBw : Below w.heap.size w w2 := hB1.trans (hB2.mono hB1.size)
 have hL0 : Kd.R (Kd.int .i64) 3 w2 w.heap.size (fun k => some k = (Value.slice Al list.length cl).ownBlock) (.slice Al list.length cl) list := Kd.R_lower (Kd.R_tight rfl hL) hB1.size
 have hin2 : ∀ j : Nat, j < list.length → 0 ≤ rd list j ∧ rd list j < cells.length := by
  intro j hj
  have := hin list[j] (List.getElem_mem _)
  simpa [rd, List.getD_eq_getElem?_getD, List.getElem?_eq_getElem hj] using this
 have HIN := Zad.mk hin2
 clear hin hin2
 go_loopw [16] (fun v16 wr => ∃ (n : Nat) (out : List ByteArray) (v : Value), n ≤ m ∧ v16 = .int .i64 n ∧ Zad (Zdi k a0_0 a0_1 cells list text n = some out) ∧ Boxed wr Bt 9 (.string text) ∧ Boxed wr Bo 22 v ∧ wr.ownsRow base 9 1 v out.length (out.map Value.string) ∧ Below base w wr ∧
   Kd.R (Kd.int .i64) 3 wr w.heap.size (fun k => some k = (Value.slice Al list.length cl).ownBlock) (.slice Al list.length cl) list)
  (fun v16 _ => m - (intOf v16).toNat)
 case atStart => exact ⟨0, [], v, Nat.zero_le _, rfl, ⟨rfl⟩, (hBw.block Bt hBt.lt).trans hBt, (hBw.block Bo hBo.lt).trans hBo, Zev hrow hBw, hBw.mono hb1, hL0⟩
 case round =>
  have hBtl := hBt.lt
  have hBol := hBo.lt
  clear hBt hBo hrow hL hL0 hB1 hB2 hRF hBw
  obtain ⟨n, out, v, hn, rfl, HN, hBt, hBo, hrow, hB, hL⟩ := hrel
  rcases Nat.lt_or_eq_of_le hn with hlt | heq
  ·have q1 := eq_true (show (n : Int) < (m : Int) by omega)
   obtain ⟨out2, hout2⟩ := Zho (n := n + 1) (m - (n + 1)) (by rw [show n + 1 + (m - (n + 1)) = m by omega]; exact HALL.out)
   have hout3 := hout2
   simp only [Zdi] at hout3
   rw [HN.out] at hout3
   obtain ⟨r, hr, hout3⟩ := Option.bind_eq_some_iff.mp (show (Zf8 k a0_0 a0_1 (fillJ cells list n list.length) text).bind (fun r => some (out ++ r)) = some out2 from hout3)
   obtain rfl := Option.some.inj hout3
   have hol := Zfd HN.out
   have HO2 := Zad.mk hout2
   have HR := Zad.mk hr
   clear hout2 hout3 hr
   have hws := hB.size
   go_wp2_with (go_at_call 69; refine (Zcs.calls2 k t a0_0 a0_1 cells wr hread).mono ?_; rintro e w3 ⟨g3, cap3, rfl, hcap3, hcm3, hg31, hg32, hRF3, hB3⟩)
   obtain ⟨Wi, hWi⟩ : ∃ Wi, w3.alloc (.cells #[.int .i64 a0_0, .int .i64 a0_1, .slice (some ⟨g3, 0, none⟩) cells.length cap3] 93) = Wi := ⟨_, rfl⟩
   rw [hWi]
   have hBi : Below wr.heap.size wr Wi := by rw [← hWi]; exact hB3.alloc hB3.size _
   have hszi : Wi.heap.size = w3.heap.size + 1 := by rw [← hWi]; simp
   have hRFi : RowF Wi g3 cells.length cells := hRF3.of_heap (by rw [← hWi]; exact Below.heap_alloc _ _ _ hg32)
   have hbxi : Wi.heap[w3.heap.size]? = some (.cells #[.int .i64 a0_0, .int .i64 a0_1, .slice (some ⟨g3, 0, none⟩) cells.length cap3] 93 (0, 0)) := by
    rw [← hWi]; simpa using heap_alloc_new w3 _
   clear hWi hRF3
   obtain ⟨wo, hwo⟩ : ∃ wo, wo = wr := ⟨_, rfl⟩
   rw [← hwo] at hBt hBo hrow hB hL hBi hg31 hws hB3
   clear hwo
   go_loopw [7, 23] (fun v7 v23 wq => ∃ (j : Nat) (z : Int), j ≤ list.length ∧ v7 = .int .i64 z ∧ v23 = .int .i64 j ∧ RowF wq g3 cells.length (fillJ cells list n j) ∧ Kept Wi wq (fun k => k = g3) ∧ Below wo.heap.size wo wq)
    (fun _ v23 _ => list.length - (intOf v23).toNat)
   case atStart => exact ⟨0, 0, Nat.zero_le _, rfl, rfl, hRFi, Kept.refl _ _, hBi⟩
   case round =>
    obtain ⟨j, z, hj, rfl, rfl, hRF, hK, hBq⟩ := hrel
    have hbx := Zdg hbxi hK (by omega)
    have hz0 : wr.cell? ⟨w3.heap.size, 0, none⟩ = some (.int .i64 a0_0) := (Zai hbx 0).trans rfl
    have hz1 : wr.cell? ⟨w3.heap.size, 1, none⟩ = some (.int .i64 a0_1) := (Zai hbx 1).trans rfl
    have hz2 : wr.cell? ⟨w3.heap.size, 2, none⟩ = some (.slice (some ⟨g3, 0, none⟩) cells.length cap3) := (Zai hbx 2).trans rfl
    have hfl := Ze3 cells list n
    rcases Nat.lt_or_eq_of_le hj with hlt2 | heq2
    ·have hLq := Kd.R_below hL hBq
     obtain ⟨ad2, e2, hy2⟩ := Kd.at_int (Kd.R_reads' hLq).2.2 (j : Int) (by omega) (by omega)
     obtain ⟨hk0, hk1⟩ := HIN.out j hlt2
     have hlt3 : (rd list j).toNat < (fillJ cells list n j).length := by rw [hfl]; omega
     have hy3 := hRF.cell (rd list j).toNat _ (List.getElem?_eq_getElem hlt3)
     have hf3 := hRF.frozen (rd list j).toNat (by omega)
     have p2 := eq_true (show (0 : Int) ≤ (j : Int) by omega)
     have q2 := eq_true (show (j : Int) < (list.length : Int) by omega)
     have p3 := eq_true hk0
     have q3 := eq_true hk1
     rw [Int.toNat_natCast] at hy2
     have hst := Zf5 cells list n j
     have HST := Zad.mk hst
     clear hst
     have hput := hRF.put (rd list j).toNat (by omega) 111
     have HPUT := Zad.mk hput
     clear hput
     cases Al with
     | none => cases e2
     | some al =>
      injection e2 with e2
      subst e2
      go_wp2
      ·have hb := Zkj n j true (by assumption)
       have h2 := HST.out
       rw [hb, if_pos rfl] at h2
       go_roundw
       case rel => exact ⟨j + 1, _, by omega, rfl, rfl, by rw [h2]; exact HPUT.out, hK.setCell (p := ⟨g3, _, none⟩) (.inl rfl) _, hBq.setCell (p := ⟨g3, _, none⟩) (Nat.le_of_lt hg31) _⟩
       case measure => simp only [intOf]; omega
      ·have hb := Zkj n j false (by assumption)
       have h2 := HST.out
       rw [hb, if_neg (by decide)] at h2
       go_roundw
       case rel => exact ⟨j + 1, z, by omega, rfl, rfl, by rw [h2]; exact hRF, hK, hBq⟩
       case measure => simp only [intOf]; omega
    ·have q2 := eq_false (show ¬ ((j : Int) < (list.length : Int)) by omega)
     have hjl : j = list.length := heq2
     rw [hjl] at hRF
     have hrowq := Zev hrow hBq
     have hBtq : Boxed wr Bt 9 (.string text) := (hBq.block Bt hBt.lt).trans hBt
     have hBoq : Boxed wr Bo 22 v := (hBq.block Bo hBo.lt).trans hBo
     have hCq := hRF.C (by omega)
     rw [← hfl list.length] at hCq
     have hws2 := hBq.size
     have hcq : (fillJ cells list n list.length).length ≤ cap3 := by rw [hfl]; exact hcap3
     have hcall := still1.calls k a0_0 a0_1 (some ⟨g3, 0, none⟩) cap3 (fillJ cells list n list.length) z text Bt Bo base v out r wr hCq hcq hBtq hBoq hrowq (by omega) hb2 hb3 (by omega) hts HR.out
     rw [hfl] at hcall
     have HC := Zad.mk hcall
     clear hcall
     go_wp2_with (go_at_call 85; refine HC.out.mono ?_; rintro e w5 ⟨rfl, hBt5, v5, hBo5, hrow5, hB5, hK5⟩)
     have hLq := Kd.R_below hL hBq
     have hL5 := Kd.R_kept hLq hK5 (fun kk hk hS => by
      rcases hS with hS | hS
      ·have := ((Kd.own_of_R hLq).lt kk hk.symm).1
       omega
      ·exact rows_ne (Kd.own_of_R hLq) hrowq (by decide) kk hk hS)
     go_roundw
     case rel => exact ⟨n + 1, out ++ r, v5, by omega, rfl, HO2, hBt5, hBo5, hrow5, (hB.trans (hBq.mono (Nat.le_trans hb1 hws))).trans hB5, hL5⟩
     case measure => simp only [intOf]; omega
  ·subst heq
   have q1 := eq_false (show ¬ ((n : Int) < (n : Int)) by omega)
   go_wp2
   go_end0
   have : out = res := Option.some.inj (HN.out.symm.trans HALL.out)
   subst this
   exact ⟨rfl, v, hBo, hrow, hB⟩
def Zd9 (cells list : List Int) (text : ByteArray) : Bool := decide (list.length ≤ 16) && list.all (fun x => decide (0 ≤ x) && decide (x < cells.length)) && decide (cells.length < 1000000) && decide (text.size ≤ 140737488355328)
def Zb8.f (k : Nat) (a0 a1 : ByteArray) : Option (List ByteArray) :=
 (Zcs.f k a0).bind fun r => (Zaq.f k r.1 r.2.1 r.2.2).bind fun list => if Zd9 r.2.2 list a1 = true then (Zdi k r.1 r.2.1 r.2.2 list a1 (2 ^ list.length)).bind fun out => Zbe.f out else none
set_option maxHeartbeats 1000000 in
set_option maxRecDepth 100000 in
theorem Zb8.calls (k : Nat) (a0 : ByteArray) (a1 : ByteArray) (r : List ByteArray) (w : World) (h : Zb8.f k a0 a1 = some r) :
  Calls Tryz.prog 43 #[.string a0, .string a1] w fun e w' => ∃ v0_ : Value, e = .returned (v0_) ∧ Kd.R Kd.string 9 w' w.heap.size (fun _ => True) v0_ r ∧ Below w.heap.size w w' := by
 unfold Zb8.f at h
 obtain ⟨⟨q1, q2, cells⟩, hread, h⟩ := Option.bind_eq_some_iff.mp h
 obtain ⟨list, hind, h⟩ := Option.bind_eq_some_iff.mp h
 simp only at h hind
 split at h
 case isFalse => cases h
 rename_i hok
 obtain ⟨out, hall, hsort⟩ := Option.bind_eq_some_iff.mp h
 simp only [Zd9, Bool.and_eq_true, decide_eq_true_eq, List.all_eq_true] at hok
 obtain ⟨⟨⟨hll, hin⟩, hcl⟩, hts⟩ := hok
 clear h
 have HALL := Zad.mk hall
 have HIN := Zad.mk hin
 clear hall hin
 have e1 : (w.alloc (.cells #[.string a1] 9)).heap.size = w.heap.size + 1 := by simp
 have e2 : ((w.alloc (.cells #[.string a1] 9)).alloc (.cells #[] 9)).heap.size = w.heap.size + 2 := by simp
 have bT := ((Boxed.new w 9 (.string a1)).alloc (.cells #[] 9)).alloc (.cells #[.slice (some ⟨w.heap.size + 1, 0, none⟩) 0 0] 22)
 have bO := Boxed.new ((w.alloc (.cells #[.string a1] 9)).alloc (.cells #[] 9)) 22 (.slice (some ⟨w.heap.size + 1, 0, none⟩) 0 0)
 rw [e2] at bO
 have hrow : (((w.alloc (.cells #[.string a1] 9)).alloc (.cells #[] 9)).alloc (.cells #[.slice (some ⟨w.heap.size + 1, 0, none⟩) 0 0] 22)).ownsRow (w.heap.size + 1) 9 1 (.slice (some ⟨w.heap.size + 1, 0, none⟩) 0 0) 0 [] := by
  refine ⟨rfl, .inr ⟨w.heap.size + 1, 0, #[], rfl, Nat.le_refl _, ?_, Nat.le_refl _, by unfold maxLen; omega, rfl, rfl⟩⟩
  rw [Below.heap_alloc _ _ _ (by rw [e2]; omega)]
  simpa using heap_alloc_new (w.alloc (.cells #[.string a1] 9)) (.cells #[] 9)
 have hB0 : Below (w.heap.size + 1) (w.alloc (.cells #[.string a1] 9)) (((w.alloc (.cells #[.string a1] 9)).alloc (.cells #[] 9)).alloc (.cells #[.slice (some ⟨w.heap.size + 1, 0, none⟩) 0 0] 22)) :=
  ((Below.refl _ _).alloc (by rw [e1]; omega) _).alloc (by rw [e2]; omega) _
 have hbs : w.heap.size + 1 ≤ (((w.alloc (.cells #[.string a1] 9)).alloc (.cells #[] 9)).alloc (.cells #[.slice (some ⟨w.heap.size + 1, 0, none⟩) 0 0] 22)).heap.size := by simp only [World.size_alloc]; omega
 have hcall := fillings.calls k a0 a1 q1 q2 cells list out w.heap.size (w.heap.size + 2) (w.heap.size + 1) _ _ bT bO hrow hbs (by omega) (by omega) hts hread hind hll (fun x hx => by have := HIN.out x hx; simpa using this) hcl HALL.out
 have HCALL := Zad.mk hcall
 clear hcall
 go_enter Tryz.func43, Tryz.ntmps43
 go_wp2_with (first
  | (go_at_call 84; refine HCALL.out.mono ?_; rintro e w1 ⟨rfl, v1, hBo, hrow1, hB1⟩; have hco := hBo.cell; have hR1 := Kd.R_of_own (enc := Value.string) (h1 := fun _ => rfl) (ok := fun k => some k = v1.ownBlock) hrow1 (fun k hk => hk.symm))
  | (go_at_call 37; refine (Zbe.calls (fun k => some k = v1.ownBlock) v1 out r (w.alloc (.cells #[.string a1] 9)) w1 (by rw [e1]; exact hB0.trans hB1) (by rw [e1]; exact hR1) hsort).mono ?_; rintro e w2 ⟨rfl, hR2, hB2, hK2⟩; have hBo2 : Boxed w2 (w.heap.size + 2) 22 v1 := Zdg hBo hK2 (hBo.not_row (by decide) hrow1); have hco2 := hBo2.cell))
 go_ret
 exact ⟨_, rfl, Kd.R_lower (Kd.R_mono hR2 (fun _ _ => trivial)) (by rw [e1]; omega), ((Below.refl _ _).alloc (Nat.le_refl _) _).trans (hB2.mono (by rw [e1]; omega))⟩
attribute [local go_sem] Zbo Zbm Zbz Zby Zbd Zbc Zbn Zbl
def Zcn.f (k : Nat) (a0 : ByteArray) (a1 : ByteArray) : Option (Int × Bool) := (Zcy.f k a0).bind fun t101 => (if t101 = true then ((Zbw.f k a1).bind fun t102 => (if t102 = true then ((Zb8.f k a0 a1).bind fun t103 => (some ((t103.length : Int), true))) else (some (0, false)))) else (some (0, false)))
set_option maxHeartbeats 8000000 in
set_option maxRecDepth 100000 in
theorem Zcn.calls (k : Nat) (a0 : ByteArray) (a1 : ByteArray) (r1 : Int) (r2 : Bool) (w : World) (h : Zcn.f k a0 a1 = some (r1, r2)) :
  Calls Tryz.prog 16 #[.string a0, .string a1] w fun e w' => e = .returned (.tuple #[.int .i64 r1, .bool r2]) ∧ Below w.heap.size w w' := by
 have HB := Zad.mk (Below.refl w.heap.size w)
 have H : ((Zcy.f k a0).bind fun t101 => (if t101 = true then ((Zbw.f k a1).bind fun t102 => (if t102 = true then ((Zb8.f k a0 a1).bind fun t103 => (some ((t103.length : Int), true))) else (some (0, false)))) else (some (0, false)))) = some (r1, r2) := h
 clear h
 replace H := Option.bind_eq_some_iff.mp H
 obtain ⟨t101, A30, H⟩ := H
 replace H : (if t101 = true then ((Zbw.f k a1).bind fun t102 => (if t102 = true then ((Zb8.f k a0 a1).bind fun t103 => (some ((t103.length : Int), true))) else (some (0, false)))) else (some (0, false))) = some (r1, r2) := H
 have A3 := Zad.mk A30
 clear A30
 by_cases c4 : t101 = true
 ·subst c4
  have H1 : ((Zbw.f k a1).bind fun t102 => (if t102 = true then ((Zb8.f k a0 a1).bind fun t103 => (some ((t103.length : Int), true))) else (some (0, false)))) = some (r1, r2) := by rw [if_pos rfl] at H; exact H
  clear H
  have H := H1
  clear H1
  replace H := Option.bind_eq_some_iff.mp H
  obtain ⟨t102, A50, H⟩ := H
  replace H : (if t102 = true then ((Zb8.f k a0 a1).bind fun t103 => (some ((t103.length : Int), true))) else (some (0, false))) = some (r1, r2) := H
  have A5 := Zad.mk A50
  clear A50
  by_cases c6 : t102 = true
  ·subst c6
   have H1 : ((Zb8.f k a0 a1).bind fun t103 => (some ((t103.length : Int), true))) = some (r1, r2) := by rw [if_pos rfl] at H; exact H
   clear H
   have H := H1
   clear H1
   replace H := Option.bind_eq_some_iff.mp H
   obtain ⟨t103, A70, H⟩ := H
   replace H : (some ((t103.length : Int), true)) = some (r1, r2) := H
   have A7 := Zad.mk A70
   clear A70
   simp only [Option.some.injEq, Prod.mk.injEq] at H
   obtain ⟨rfl, rfl⟩ := H
   go_enter Tryz.func16, Tryz.ntmps16
   go_wp2_with (first | ((with_reducible refine Zau (f := 41) rfl ?_); refine Zbr (some 7) rfl rfl Tryz.func41 (by kernel_rfl) rfl #[.string a0] rfl (by (try simp only [List.map_toArray, List.map_cons, List.map_nil]); first | done | rfl | (simp only [List.length_drop, List.length_take]; rfl)) ?_; (with_reducible refine (Zcy.calls k a0 true _ A3.out).mono ?_); rintro e w8 ⟨rfl, hb⟩; refine ⟨_, rfl, ?_⟩; have n0_ := Zad.mk (Zal (by with_reducible repeat first | exact HB.out | apply Zac | apply Zaa | apply Zab) hb); clear HB; have HB := n0_) | (go_at_call 42; (with_reducible refine (Zbw.calls k a1 true _ A5.out).mono ?_); rintro e w9 ⟨rfl, hb⟩; have n0_ := Zad.mk (Zal (by with_reducible repeat first | exact HB.out | apply Zac | apply Zaa | apply Zab) hb); clear HB; have HB := n0_) | ((with_reducible refine Zau (f := 43) rfl ?_); refine Zbr (some 16) rfl rfl Tryz.func43 (by kernel_rfl) rfl #[.string a0, .string a1] rfl (by (try simp only [List.map_toArray, List.map_cons, List.map_nil]); first | done | rfl | (simp only [List.length_drop, List.length_take]; rfl)) ?_; (with_reducible refine (Zb8.calls k a0 a1 t103 _ A7.out).mono ?_); rintro e w10 ⟨v104, rfl, ho0, hb⟩; refine ⟨_, rfl, ?_⟩; have n0_ := Zad.mk (Kd.R_lower ho0 (Zak (by with_reducible repeat first | exact HB.out | apply Zac | apply Zaa | apply Zab))); have n1_ := Zad.mk (Zal (by with_reducible repeat first | exact HB.out | apply Zac | apply Zaa | apply Zab) hb); clear HB; have HO105 := n0_; have HB := n1_; obtain ⟨Ao11, co11, eo11⟩ := Kd.R_slice HO105.out; subst eo11))
   go_ret2
   exact ⟨by first | rfl | (simp [Zao, Zan] <;> rfl) | (simp [*, Zao, Zan] <;> rfl), by repeat (first | (with_reducible first | exact HB.out | apply Zac | apply Zaa | apply Zab) | exact HB.out)⟩
  ·replace c6 := Bool.eq_false_iff.mpr c6
   subst c6
   have H1 : (some (0, false)) = some (r1, r2) := by rw [if_neg (show ¬ (false = true) by decide)] at H; exact H
   clear H
   have H := H1
   clear H1
   simp only [Option.some.injEq, Prod.mk.injEq] at H
   obtain ⟨rfl, rfl⟩ := H
   go_enter Tryz.func16, Tryz.ntmps16
   go_wp2_with (first | ((with_reducible refine Zau (f := 41) rfl ?_); refine Zbr (some 7) rfl rfl Tryz.func41 (by kernel_rfl) rfl #[.string a0] rfl (by (try simp only [List.map_toArray, List.map_cons, List.map_nil]); first | done | rfl | (simp only [List.length_drop, List.length_take]; rfl)) ?_; (with_reducible refine (Zcy.calls k a0 true _ A3.out).mono ?_); rintro e w12 ⟨rfl, hb⟩; refine ⟨_, rfl, ?_⟩; have n0_ := Zad.mk (Zal (by with_reducible repeat first | exact HB.out | apply Zac | apply Zaa | apply Zab) hb); clear HB; have HB := n0_) | (go_at_call 42; (with_reducible refine (Zbw.calls k a1 false _ A5.out).mono ?_); rintro e w13 ⟨rfl, hb⟩; have n0_ := Zad.mk (Zal (by with_reducible repeat first | exact HB.out | apply Zac | apply Zaa | apply Zab) hb); clear HB; have HB := n0_))
   go_ret2
   exact ⟨by first | rfl | (simp [Zao, Zan] <;> rfl) | (simp [*, Zao, Zan] <;> rfl), by repeat (first | (with_reducible first | exact HB.out | apply Zac | apply Zaa | apply Zab) | exact HB.out)⟩
 ·replace c4 := Bool.eq_false_iff.mpr c4
  subst c4
  have H1 : (some (0, false)) = some (r1, r2) := by rw [if_neg (show ¬ (false = true) by decide)] at H; exact H
  clear H
  have H := H1
  clear H1
  simp only [Option.some.injEq, Prod.mk.injEq] at H
  obtain ⟨rfl, rfl⟩ := H
  go_enter Tryz.func16, Tryz.ntmps16
  go_wp2_with (first | ((with_reducible refine Zau (f := 41) rfl ?_); refine Zbr (some 7) rfl rfl Tryz.func41 (by kernel_rfl) rfl #[.string a0] rfl (by (try simp only [List.map_toArray, List.map_cons, List.map_nil]); first | done | rfl | (simp only [List.length_drop, List.length_take]; rfl)) ?_; (with_reducible refine (Zcy.calls k a0 false _ A3.out).mono ?_); rintro e w14 ⟨rfl, hb⟩; refine ⟨_, rfl, ?_⟩; have n0_ := Zad.mk (Zal (by with_reducible repeat first | exact HB.out | apply Zac | apply Zaa | apply Zab) hb); clear HB; have HB := n0_))
  go_ret2
  exact ⟨by first | rfl | (simp [Zao, Zan] <;> rfl) | (simp [*, Zao, Zan] <;> rfl), by repeat (first | (with_reducible first | exact HB.out | apply Zac | apply Zaa | apply Zab) | exact HB.out)⟩
def Zb1.f (k : Nat) (a0 : ByteArray) (a1 : ByteArray) : Option (List ByteArray × Bool) := (Zcn.f k a0 a1).bind fun bt101 => (if bt101.2 = true then (if bt101.1 > 200 then (some (([] : List ByteArray), false)) else ((Zb8.f k a0 a1).bind fun t103 => (some (t103, true)))) else (some (([] : List ByteArray), false)))
set_option maxHeartbeats 8000000 in
set_option maxRecDepth 100000 in
theorem Zb1.calls (k : Nat) (a0 : ByteArray) (a1 : ByteArray) (r1 : List ByteArray) (r2 : Bool) (w : World) (h : Zb1.f k a0 a1 = some (r1, r2)) :
  Calls Tryz.prog 28 #[.string a0, .string a1] w fun e w' => ∃ v0_ : Value, e = .returned (.tuple #[v0_, .bool r2]) ∧ Kd.R Kd.string 9 w' w.heap.size (fun _ => True) v0_ r1 ∧ Below w.heap.size w w' := by
 have HB := Zad.mk (Below.refl w.heap.size w)
 have H : ((Zcn.f k a0 a1).bind fun bt101 => (if bt101.2 = true then (if bt101.1 > 200 then (some (([] : List ByteArray), false)) else ((Zb8.f k a0 a1).bind fun t103 => (some (t103, true)))) else (some (([] : List ByteArray), false)))) = some (r1, r2) := h
 clear h
 replace H := Option.bind_eq_some_iff.mp H
 obtain ⟨⟨t101, t102⟩, A30, H⟩ := H
 replace H : (if t102 = true then (if t101 > 200 then (some (([] : List ByteArray), false)) else ((Zb8.f k a0 a1).bind fun t103 => (some (t103, true)))) else (some (([] : List ByteArray), false))) = some (r1, r2) := H
 have A3 := Zad.mk A30
 clear A30
 by_cases c4 : t102 = true
 ·subst c4
  have H1 : (if t101 > 200 then (some (([] : List ByteArray), false)) else ((Zb8.f k a0 a1).bind fun t103 => (some (t103, true)))) = some (r1, r2) := by rw [if_pos rfl] at H; exact H
  clear H
  have H := H1
  clear H1
  by_cases c5 : t101 > 200
  ·rw [if_pos c5] at H
   have c5b0 : decide (200 < t101) = true := decide_eq_true c5
   clear c5
   simp only [Option.some.injEq, Prod.mk.injEq] at H
   obtain ⟨rfl, rfl⟩ := H
   go_enter Tryz.func28, Tryz.ntmps28
   go_wp2_with (first | ((with_reducible refine Zau (f := 16) rfl ?_); refine Zbr (some 11) rfl rfl Tryz.func16 (by kernel_rfl) rfl #[.string a0, .string a1] rfl (by (try simp only [List.map_toArray, List.map_cons, List.map_nil]); first | done | rfl | (simp only [List.length_drop, List.length_take]; rfl)) ?_; (with_reducible refine (Zcn.calls k a0 a1 t101 true _ A3.out).mono ?_); rintro e w6 ⟨rfl, hb⟩; refine ⟨_, rfl, ?_⟩; have n0_ := Zad.mk (Zal (by with_reducible repeat first | exact HB.out | apply Zac | apply Zaa | apply Zab) hb); clear HB; have HB := n0_))
   go_ret2
   exact ⟨_, by first | rfl | (simp [Zao, Zan] <;> rfl) | (simp [*, Zao, Zan] <;> rfl), by first | exact Kd.R_nil _ _ _ _ _ | exact Kd.N_nil _ _ _ _ _ | exact Kd.V_nil _ _ _ _ _ | exact Kd.Q_nil _ _ _ _ _ | exact Kd.S_nil _ _ _ _ _, by repeat (first | (with_reducible first | exact HB.out | apply Zac | apply Zaa | apply Zab) | exact HB.out)⟩
  ·rw [if_neg c5] at H
   have c5b0 : decide (200 < t101) = false := decide_eq_false c5
   clear c5
   replace H := Option.bind_eq_some_iff.mp H
   obtain ⟨t103, A70, H⟩ := H
   replace H : (some (t103, true)) = some (r1, r2) := H
   have A7 := Zad.mk A70
   clear A70
   simp only [Option.some.injEq, Prod.mk.injEq] at H
   obtain ⟨rfl, rfl⟩ := H
   go_enter Tryz.func28, Tryz.ntmps28
   go_wp2_with (first | ((with_reducible refine Zau (f := 16) rfl ?_); refine Zbr (some 11) rfl rfl Tryz.func16 (by kernel_rfl) rfl #[.string a0, .string a1] rfl (by (try simp only [List.map_toArray, List.map_cons, List.map_nil]); first | done | rfl | (simp only [List.length_drop, List.length_take]; rfl)) ?_; (with_reducible refine (Zcn.calls k a0 a1 t101 true _ A3.out).mono ?_); rintro e w8 ⟨rfl, hb⟩; refine ⟨_, rfl, ?_⟩; have n0_ := Zad.mk (Zal (by with_reducible repeat first | exact HB.out | apply Zac | apply Zaa | apply Zab) hb); clear HB; have HB := n0_) | ((with_reducible refine Zau (f := 43) rfl ?_); refine Zbr (some 22) rfl rfl Tryz.func43 (by kernel_rfl) rfl #[.string a0, .string a1] rfl (by (try simp only [List.map_toArray, List.map_cons, List.map_nil]); first | done | rfl | (simp only [List.length_drop, List.length_take]; rfl)) ?_; (with_reducible refine (Zb8.calls k a0 a1 t103 _ A7.out).mono ?_); rintro e w9 ⟨v104, rfl, ho0, hb⟩; refine ⟨_, rfl, ?_⟩; have n0_ := Zad.mk (Kd.R_lower ho0 (Zak (by with_reducible repeat first | exact HB.out | apply Zac | apply Zaa | apply Zab))); have n1_ := Zad.mk (Zal (by with_reducible repeat first | exact HB.out | apply Zac | apply Zaa | apply Zab) hb); clear HB; have HO105 := n0_; have HB := n1_))
   go_ret2
   exact ⟨_, by first | rfl | (simp [Zao, Zan] <;> rfl) | (simp [*, Zao, Zan] <;> rfl), by (with_reducible repeat (first | apply Kd.R_alloc | apply Kd.R_drewN | apply Kd.R_drew)); exact HO105.out, by repeat (first | (with_reducible first | exact HB.out | apply Zac | apply Zaa | apply Zab) | exact HB.out)⟩
 ·replace c4 := Bool.eq_false_iff.mpr c4
  subst c4
  have H1 : (some (([] : List ByteArray), false)) = some (r1, r2) := by rw [if_neg (show ¬ (false = true) by decide)] at H; exact H
  clear H
  have H := H1
  clear H1
  simp only [Option.some.injEq, Prod.mk.injEq] at H
  obtain ⟨rfl, rfl⟩ := H
  go_enter Tryz.func28, Tryz.ntmps28
  go_wp2_with (first | ((with_reducible refine Zau (f := 16) rfl ?_); refine Zbr (some 11) rfl rfl Tryz.func16 (by kernel_rfl) rfl #[.string a0, .string a1] rfl (by (try simp only [List.map_toArray, List.map_cons, List.map_nil]); first | done | rfl | (simp only [List.length_drop, List.length_take]; rfl)) ?_; (with_reducible refine (Zcn.calls k a0 a1 t101 false _ A3.out).mono ?_); rintro e w10 ⟨rfl, hb⟩; refine ⟨_, rfl, ?_⟩; have n0_ := Zad.mk (Zal (by with_reducible repeat first | exact HB.out | apply Zac | apply Zaa | apply Zab) hb); clear HB; have HB := n0_))
  go_ret2
  exact ⟨_, by first | rfl | (simp [Zao, Zan] <;> rfl) | (simp [*, Zao, Zan] <;> rfl), by first | exact Kd.R_nil _ _ _ _ _ | exact Kd.N_nil _ _ _ _ _ | exact Kd.V_nil _ _ _ _ _ | exact Kd.Q_nil _ _ _ _ _ | exact Kd.S_nil _ _ _ _ _, by repeat (first | (with_reducible first | exact HB.out | apply Zac | apply Zaa | apply Zab) | exact HB.out)⟩
end Go.Proofs.YtjohcjkidoalkaaGreatDoor.PA
