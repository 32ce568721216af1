/- Contracts of functions and plain lemmas, for the last text. -/
import Derived.Test.YtjohcjkidoalkaaGreatDoorAsF
import Derived.Deep.RegionWith
import Derived.Deep.CutBlock
import Derived.Lib.AtoiErrMem
import Derived.Shelf.Small.Strs
import Derived.Shelf.Sort.Plain
import Derived.Shelf.Slices.Turned
import Derived.Ground.SlgnProg
import Derived.Ground.SlsfProg
import Derived.Ground.SlgmProg
import Derived.Shelf.SlGeneric
import Derived.Shelf.SlicesE.Index
import Derived.Shelf.SlicesE.Equal
import Derived.Shelf.SlicesE.Compact
import Derived.Shelf.SlicesE.Clone
import Derived.Shelf.SortM.Plain
import Derived.Shelf.SortM.SortNone
import Derived.Shelf.SlSortCmp.Whole1
import Derived.Shelf.SlSortCmp.NoneTotal
import Derived.Test.YtjohcjkidoalkaaGreatDoorProg
import Derived.Shelf.Slices.Reverse
set_option linter.unusedVariables false
set_option linter.unusedSimpArgs false
namespace Go.Proofs.YtjohcjkidoalkaaGreatDoor.PA
open Go.RowKit Go.PW.PrintWords Go.PW.PrintLast Go.PW.PrintMore
attribute [local go_sem] Zbo Zbm Zbz Zby Zbd Zbc Zbn Zbl
mutual
def Zax.j0 : Nat → ByteArray → ByteArray → Int → Int → Option (List ByteArray)
 | 0, _, _, _, _ => none
 | k + 1, x0, x1, x2, x3 => if 0 ≤ (mn x3 (wrap64 ((x0.size : Int) + 1))) then (if (mn x3 (wrap64 ((x0.size : Int) + 1)) : Int).toNat ≤ 17592186044416 then (Zax.l0 k x0 x1 x2 (wrap64 ((mn x3 (wrap64 ((x0.size : Int) + 1))) - 1)) (List.replicate (mn x3 (wrap64 ((x0.size : Int) + 1)) : Int).toNat (⟨#[]⟩ : ByteArray)) 0) else (none)) else (none)
def Zax.l0 : Nat → ByteArray → ByteArray → Int → Int → List ByteArray → Int → Option (List ByteArray)
 | 0, _, _, _, _, _, _ => none
 | k + 1, x0, x1, x2, x3, x9, x10 => if x10 < x3 then ((Zcx.f x0 x1).bind fun t108 => (if t108 < 0 then (if 0 ≤ x10 then (if x10 < (x9.length : Int) then (if 0 ≤ (wrap64 (x10 + 1)) then (if (wrap64 (x10 + 1)) ≤ (x9.length : Int) then (some ((x9.set (x10 : Int).toNat x0).take ((wrap64 (x10 + 1)) : Int).toNat)) else (none)) else (none)) else (none)) else (none)) else (if 0 ≤ (wrap64 (t108 + x2)) then (if (wrap64 (t108 + x2)) ≤ (x0.size : Int) then (if 0 ≤ x10 then (if x10 < (x9.length : Int) then (if 0 ≤ (wrap64 (t108 + (x1.size : Int))) then (if (wrap64 (t108 + (x1.size : Int))) ≤ (x0.size : Int) then (Zax.l0 k (x0.extract ((wrap64 (t108 + (x1.size : Int))) : Int).toNat x0.size) x1 x2 x3 (x9.set (x10 : Int).toNat (x0.extract 0 ((wrap64 (t108 + x2)) : Int).toNat)) (wrap64 (x10 + 1))) else (none)) else (none)) else (none)) else (none)) else (none)) else (none)))) else (if 0 ≤ x10 then (if x10 < (x9.length : Int) then (if 0 ≤ (wrap64 (x10 + 1)) then (if (wrap64 (x10 + 1)) ≤ (x9.length : Int) then (some ((x9.set (x10 : Int).toNat x0).take ((wrap64 (x10 + 1)) : Int).toNat)) else (none)) else (none)) else (none)) else (none))
end
def Zax.f (k : Nat) (a0 : ByteArray) (a1 : ByteArray) (a2 : Int) (a3 : Int) : Option (List ByteArray) := if a3 = 0 then (some ([] : List ByteArray)) else (if a1.toList = ([] : List UInt8) then ((Zc2.f a0 a3).bind fun t101 => (some t101)) else (if a3 < 0 then ((Zb0.f a0 a1).bind fun t104 => (Zax.j0 k a0 a1 a2 (wrap64 (t104 + 1)))) else (Zax.j0 k a0 a1 a2 a3)))
set_option maxHeartbeats 8000000 in
set_option maxRecDepth 100000 in
theorem Zax.calls (k : Nat) (a0 : ByteArray) (a1 : ByteArray) (a2 : Int) (a3 : Int) (r : List ByteArray) (w : World) (h : Zax.f k a0 a1 a2 a3 = some r) :
  Calls Tryz.prog 156 #[.string a0, .string a1, .int .i64 a2, .int .i64 a3] w fun e w' => ∃ v0_ : Value, e = .returned (v0_) ∧ Kd.R Kd.string 9 w' w.heap.size (fun _ => True) v0_ r ∧ Below w.heap.size w w' := by
 have HB := Zad.mk (Below.refl w.heap.size w)
 have H : (if a3 = 0 then (some ([] : List ByteArray)) else (if a1.toList = ([] : List UInt8) then ((Zc2.f a0 a3).bind fun t101 => (some t101)) else (if a3 < 0 then ((Zb0.f a0 a1).bind fun t104 => (Zax.j0 k a0 a1 a2 (wrap64 (t104 + 1)))) else (Zax.j0 k a0 a1 a2 a3)))) = some r := h
 clear h
 by_cases c5 : a3 = 0
 ·rw [if_pos c5] at H
  have c5b0 : (a3 == 0) = true := beq_iff_eq.mpr c5
  have c5b1 : (a3 != 0) = false := bne_eq_false_iff_eq.mpr c5
  clear c5
  obtain rfl := Option.some.inj H
  go_enter Tryz.func156, Tryz.ntmps156
  go_wp2
  go_ret
  exact ⟨_, by first | rfl | (simp [Zao, Zan] <;> rfl) | (simp [*, Zao, Zan] <;> rfl), by first | exact Kd.R_nil _ _ _ _ _ | exact Kd.N_nil _ _ _ _ _ | exact Kd.V_nil _ _ _ _ _ | exact Kd.Q_nil _ _ _ _ _ | exact Kd.S_nil _ _ _ _ _, by repeat (first | (with_reducible first | exact HB.out | apply Zac | apply Zaa | apply Zab) | exact HB.out)⟩
 ·rw [if_neg c5] at H
  have c5b0 : (a3 == 0) = false := beq_eq_false_iff_ne.mpr c5
  have c5b1 : (a3 != 0) = true := bne_iff_ne.mpr c5
  by_cases c6 : a1.toList = ([] : List UInt8)
  ·rw [if_pos c6] at H
   have c6b0 : (a1.toList == ([] : List UInt8)) = true := beq_iff_eq.mpr c6
   have c6b1 : (a1.toList != ([] : List UInt8)) = false := bne_eq_false_iff_eq.mpr c6
   clear c6
   replace H := Option.bind_eq_some_iff.mp H
   obtain ⟨t101, A70, H⟩ := H
   replace H : (some t101) = some r := H
   have A7 := Zad.mk A70
   clear A70
   obtain rfl := Option.some.inj H
   go_enter Tryz.func156, Tryz.ntmps156
   go_wp2_with (first | ((with_reducible refine Zau (f := 189) rfl ?_); refine Zbr (some 18) rfl rfl Tryz.func189 (by kernel_rfl) rfl #[.string a0, .int .i64 a3] rfl (by (try simp only [List.map_toArray, List.map_cons, List.map_nil]); first | done | rfl | (simp only [List.length_drop, List.length_take]; rfl)) ?_; (with_reducible refine (Zc2.calls a0 a3 t101 _ A7.out).mono ?_); rintro e w8 ⟨v102, rfl, ho0, hb⟩; refine ⟨_, rfl, ?_⟩; have n0_ := Zad.mk (Kd.R_lower ho0 (Zak (by with_reducible repeat first | exact HB.out | apply Zac | apply Zaa | apply Zab))); have n1_ := Zad.mk (Zal (by with_reducible repeat first | exact HB.out | apply Zac | apply Zaa | apply Zab) hb); clear HB; have HO103 := n0_; have HB := n1_))
   go_ret
   exact ⟨_, by first | rfl | (simp [Zao, Zan] <;> rfl) | (simp [*, Zao, Zan] <;> rfl), by (with_reducible repeat (first | apply Kd.R_alloc | apply Kd.R_drewN | apply Kd.R_drew)); exact HO103.out, by repeat (first | (with_reducible first | exact HB.out | apply Zac | apply Zaa | apply Zab) | exact HB.out)⟩
  ·rw [if_neg c6] at H
   have c6b0 : (a1.toList == ([] : List UInt8)) = false := beq_eq_false_iff_ne.mpr c6
   have c6b1 : (a1.toList != ([] : List UInt8)) = true := bne_iff_ne.mpr c6
   have HC9 := Zad.mk H
   clear H
   go_enter Tryz.func156, Tryz.ntmps156
   go_upto_if 20 with (fail)
   go_cut [3] (fun v3 wc => ∃ (kq : Nat) (x3_8 : Int), v3 = .int .i64 x3_8 ∧ Zad (Zax.j0 kq a0 a1 a2 x3_8 = some r) ∧ Zad (kq ≤ k) ∧ Zad (Below w.heap.size w wc))
   case first =>
    have H := HC9.out
    clear HC9
    by_cases c10 : a3 < 0
    ·rw [if_pos c10] at H
     have c10b0 : decide (a3 < 0) = true := decide_eq_true c10
     clear c10
     (first | rw [c10b0] | (simp only [i64_w, i32_w]; rw [c10b0]) | skip)
     replace H := Option.bind_eq_some_iff.mp H
     obtain ⟨t104, A110, H⟩ := H
     replace H : (Zax.j0 k a0 a1 a2 (wrap64 (t104 + 1))) = some r := H
     have A11 := Zad.mk A110
     clear A110
     have H' := Zad.mk H
     clear H
     go_wp2_with (first | ((with_reducible refine Zau (f := 82) rfl ?_); refine Zbr (some 23) rfl rfl Tryz.func82 (by kernel_rfl) rfl #[.string a0, .string a1] rfl (by (try simp only [List.map_toArray, List.map_cons, List.map_nil]); first | done | rfl | (simp only [List.length_drop, List.length_take]; rfl)) ?_; (with_reducible refine (Zb0.calls a0 a1 t104 _ A11.out).mono ?_); rintro e w12 ⟨rfl, hb⟩; refine ⟨_, rfl, ?_⟩; have n0_ := Zad.mk (Zal (by with_reducible repeat first | exact HB.out | apply Zac | apply Zaa | apply Zab) hb); clear HB; have HB := n0_))
     go_meet
     case rel => exact ⟨_, (wrap64 (t104 + 1)), (by first | rfl | (simp; done) | (simp [*]; done)), H', ⟨by first | omega | exact Nat.le_refl _⟩, ⟨by with_reducible repeat first | exact HB.out | apply Zac | apply Zaa | apply Zab⟩⟩
    ·rw [if_neg c10] at H
     have c10b0 : decide (a3 < 0) = false := decide_eq_false c10
     clear c10
     (first | rw [c10b0] | (simp only [i64_w, i32_w]; rw [c10b0]) | skip)
     have H' := Zad.mk H
     clear H
     go_wp2
     go_meet
     case rel => exact ⟨_, (a3), (by first | rfl | (simp; done) | (simp [*]; done)), H', ⟨by first | omega | exact Nat.le_refl _⟩, ⟨by with_reducible repeat first | exact HB.out | apply Zac | apply Zaa | apply Zab⟩⟩
   case rest =>
    clear HC9
    obtain ⟨kq, x3_8, rfl, HA, HJ8, HB⟩ := hcut
    cases kq with
    | zero => exact absurd HA.out (by simp [Zax.j0])
    | succ kj8 =>
     have H := HA.out
     clear HA
     simp only [Zax.j0] at H
     obtain ⟨ji13, hji13⟩ : ∃ j_ : Int, (mn x3_8 (wrap64 ((a0.size : Int) + 1))) = j_ := ⟨_, rfl⟩
     replace H : (if 0 ≤ (ji13) then (if (ji13 : Int).toNat ≤ 17592186044416 then (Zax.l0 kj8 a0 a1 a2 (wrap64 ((ji13) - 1)) (List.replicate (ji13 : Int).toNat (⟨#[]⟩ : ByteArray)) 0) else (none)) else (none)) = some r := by first | (rw [hji13] at H; exact H) | (simp only [hji13] at H ⊢; exact H)
     have hji13_ : (if (wrap64 ((a0.size : Int) + 1)) < x3_8 then (wrap64 ((a0.size : Int) + 1)) else x3_8) = ji13 := hji13
     by_cases c14 : 0 ≤ (ji13)
     ·rw [if_pos c14] at H
      have c14b0 := eq_true c14
      have c14b1 : decide (0 ≤ (ji13)) = true := decide_eq_true c14
      clear c14
      by_cases c15 : (ji13 : Int).toNat ≤ 17592186044416
      ·rw [if_pos c15] at H
       have c15b0 := eq_true c15
       have c15b1 : decide ((ji13 : Int).toNat ≤ 17592186044416) = true := decide_eq_true c15
       clear c15
       obtain ⟨y105, hy105⟩ : ∃ y_ : List ByteArray, y_ = (List.replicate (ji13 : Int).toNat (⟨#[]⟩ : ByteArray)) := ⟨_, rfl⟩
       replace H : (Zax.l0 kj8 a0 a1 a2 (wrap64 ((ji13) - 1)) y105 0) = some r := by first | (rw [hy105]; with_reducible exact H) | (have H2_ := (Option.bind_some _ _).symm.trans H; rw [hy105]; with_reducible exact H2_) | (have H2_ := (Option.bind_some _ _).symm.trans H; with_reducible exact H2_) | with_reducible exact H | (rw [hy105]; exact H) | exact H
       have Ny105 := Zad.mk hy105
       clear hy105
       have H' := Zad.mk H
       clear H
       go_wp2_with (first | ((with_reducible refine Zay (N := 31) rfl ?_); refine Kd.R_make Kd.string _ 9 rfl (N := 31) rfl 22 _ _ rfl ji13 rfl rfl Tryz.underlying22 (.string ⟨#[]⟩) 16 info9 rfl (by decide) (by omega) (⟨#[]⟩ : ByteArray) (ok := fun _ => True) (okp := fun _ => True) rfl (fun _ hk => hk) trivial (of_decide_eq_true (by first | (with_reducible assumption) | assumption)) (Nat.le_trans (Nat.mul_le_mul_right _ (of_decide_eq_true (by first | (with_reducible assumption) | assumption) : ji13.toNat ≤ 17592186044416)) (by omega)) (Below.refl _ _) (Nat.le_refl _) ?_; intro v106 w16 ho17 hb hg_ hnew_; clear hg_ hnew_; (first | rw [← Ny105.out] at ho17 | (simp only [Int.reduceToNat] at ho17; rw [← Ny105.out] at ho17)); have n0_ := Zad.mk (Kd.R_lower ho17 (Zak (by with_reducible repeat first | exact HB.out | apply Zac | apply Zaa | apply Zab))); have n1_ := Zad.mk (Zal (by with_reducible repeat first | exact HB.out | apply Zac | apply Zaa | apply Zab) hb); clear HB; have HO107 := n0_; have HB := n1_; clear hb ho17))
       go_loopg [0, 10] kj8 (fun kq v0 v10 w' => ∃ (x0_2 : ByteArray) (x9_2 : List ByteArray) (x10_2 : Int), v0 = .string x0_2 ∧ v10 = .int .i64 x10_2 ∧ Zad (Zax.l0 kq x0_2 a1 a2 (wrap64 ((ji13) - 1)) x9_2 x10_2 = some r) ∧ Zad (kq ≤ kj8) ∧ Zad (Kd.R Kd.string 9 w' w.heap.size (fun _ => True) v106 x9_2) ∧ Zad (Below w.heap.size w w'))
       case atStart => exact ⟨(a0), (y105), (0), (by first | rfl | (simp; done) | (simp [*]; done)), (by first | rfl | (simp; done) | (simp [*]; done)), H', ⟨Nat.le_refl _⟩, ⟨by (with_reducible repeat (first | apply Kd.R_alloc | apply Kd.R_drewN | apply Kd.R_drew)); exact HO107.out⟩, ⟨by with_reducible repeat first | exact HB.out | apply Zac | apply Zaa | apply Zab⟩⟩
       case round =>
        clear H'
        obtain ⟨x0_2, x9_2, x10_2, rfl, rfl, HA, HK2, HO_9, HB⟩ := hrel
        cases gk with
        | zero => exact absurd HA.out (by simp [Zax.l0])
        | succ k2 =>
         have H := HA.out
         clear HA
         simp only [Zax.l0] at H
         by_cases c18 : x10_2 < (wrap64 ((ji13) - 1))
         ·rw [if_pos c18] at H
          have c18b0 : decide (x10_2 < (wrap64 ((ji13) - 1))) = true := decide_eq_true c18
          clear c18
          replace H := Option.bind_eq_some_iff.mp H
          obtain ⟨t108, A190, H⟩ := H
          replace H : (if t108 < 0 then (if 0 ≤ x10_2 then (if x10_2 < (x9_2.length : Int) then (if 0 ≤ (wrap64 (x10_2 + 1)) then (if (wrap64 (x10_2 + 1)) ≤ (x9_2.length : Int) then (some ((x9_2.set (x10_2 : Int).toNat x0_2).take ((wrap64 (x10_2 + 1)) : Int).toNat)) else (none)) else (none)) else (none)) else (none)) else (if 0 ≤ (wrap64 (t108 + a2)) then (if (wrap64 (t108 + a2)) ≤ (x0_2.size : Int) then (if 0 ≤ x10_2 then (if x10_2 < (x9_2.length : Int) then (if 0 ≤ (wrap64 (t108 + (a1.size : Int))) then (if (wrap64 (t108 + (a1.size : Int))) ≤ (x0_2.size : Int) then (Zax.l0 k2 (x0_2.extract ((wrap64 (t108 + (a1.size : Int))) : Int).toNat x0_2.size) a1 a2 (wrap64 ((ji13) - 1)) (x9_2.set (x10_2 : Int).toNat (x0_2.extract 0 ((wrap64 (t108 + a2)) : Int).toNat)) (wrap64 (x10_2 + 1))) else (none)) else (none)) else (none)) else (none)) else (none)) else (none))) = some r := H
          have A19 := Zad.mk A190
          clear A190
          by_cases c20 : t108 < 0
          ·rw [if_pos c20] at H
           have c20b0 : decide (t108 < 0) = true := decide_eq_true c20
           clear c20
           by_cases c21 : 0 ≤ x10_2
           ·rw [if_pos c21] at H
            have c21b0 : decide (0 ≤ x10_2) = true := decide_eq_true c21
            clear c21
            by_cases c22 : x10_2 < (x9_2.length : Int)
            ·rw [if_pos c22] at H
             have c22b0 : decide (x10_2 < (x9_2.length : Int)) = true := decide_eq_true c22
             clear c22
             obtain ⟨y109, hy109⟩ : ∃ y_ : List ByteArray, y_ = (x9_2.set (x10_2 : Int).toNat x0_2) := ⟨_, rfl⟩
             replace H : (if 0 ≤ (wrap64 (x10_2 + 1)) then (if (wrap64 (x10_2 + 1)) ≤ (x9_2.length : Int) then (some (y109.take ((wrap64 (x10_2 + 1)) : Int).toNat)) else (none)) else (none)) = some r := by first | (rw [hy109]; with_reducible exact H) | (have H2_ := (Option.bind_some _ _).symm.trans H; rw [hy109]; with_reducible exact H2_) | (have H2_ := (Option.bind_some _ _).symm.trans H; with_reducible exact H2_) | with_reducible exact H | (rw [hy109]; exact H) | exact H
             have Ny109 := Zad.mk hy109
             clear hy109
             obtain ⟨ji24, hji24⟩ : ∃ j_ : Int, (wrap64 (x10_2 + 1)) = j_ := ⟨_, rfl⟩
             replace H : (if 0 ≤ (ji24) then (if (ji24) ≤ (x9_2.length : Int) then (some (y109.take ((ji24) : Int).toNat)) else (none)) else (none)) = some r := by first | (rw [hji24] at H; exact H) | (simp only [hji24] at H ⊢; exact H)
             (try rw [hji24] at A19)
             have hji24w : (IntKind.i64.wrap (x10_2 + 1)) = ji24 := (i64_w _).trans hji24
             by_cases c25 : 0 ≤ (ji24)
             ·rw [if_pos c25] at H
              have c25b0 := eq_true c25
              have c25b1 : decide (0 ≤ (ji24)) = true := decide_eq_true c25
              clear c25
              by_cases c26 : (ji24) ≤ (x9_2.length : Int)
              ·rw [if_pos c26] at H
               have c26b0 := eq_true c26
               have c26b1 : decide ((ji24) ≤ (x9_2.length : Int)) = true := decide_eq_true c26
               clear c26
               obtain ⟨y110, hy110⟩ : ∃ y_ : List ByteArray, y_ = (y109.take ((ji24) : Int).toNat) := ⟨_, rfl⟩
               replace H : (some y110) = some r := by first | (rw [hy110]; with_reducible exact H) | (have H2_ := (Option.bind_some _ _).symm.trans H; rw [hy110]; with_reducible exact H2_) | (have H2_ := (Option.bind_some _ _).symm.trans H; with_reducible exact H2_) | with_reducible exact H | (rw [hy110]; exact H) | exact H
               have Ny110 := Zad.mk hy110
               clear hy110
               obtain rfl := Option.some.inj H
               go_wp2_with (first | ((with_reducible refine Zau (f := 126) rfl ?_); refine Zbr (some 39) rfl rfl Tryz.func126 (by kernel_rfl) rfl #[.string x0_2, .string a1] rfl (by (try simp only [List.map_toArray, List.map_cons, List.map_nil]); first | done | rfl | (simp only [List.length_drop, List.length_take]; rfl)) ?_; (with_reducible refine (Zcx.calls x0_2 a1 t108 _ A19.out).mono ?_); rintro e w27 ⟨rfl, hb⟩; refine ⟨_, rfl, ?_⟩; have n0_ := Zad.mk (Kd.R_below (by (with_reducible repeat (first | apply Kd.R_alloc | apply Kd.R_drewN | apply Kd.R_drew)); exact HO_9.out) hb); have n1_ := Zad.mk (Zal (by with_reducible repeat first | exact HB.out | apply Zac | apply Zaa | apply Zab) hb); clear HO_9; clear HB; have HO_9 := n0_; have HB := n1_; have p23 : 0 ≤ (x10_2 : Int) := of_decide_eq_true (by first | (with_reducible assumption) | assumption); have q23 : (x10_2 : Int) < ((x9_2.length : Int) : Int) := of_decide_eq_true (by first | (with_reducible assumption) | assumption); obtain ⟨go23, co23, eo23, gb23, gl23, cl23, HG23⟩ := Kd.R_form HO_9.out (by omega); (first | cases eo23 | (injection eo23 with ea_ en_ ec_; (first | subst ea_ | (injection ea_ with ea_; subst ea_)); subst ec_; clear en_)); have GB23 := Zad.mk gb23; have GG23 := Zad.mk HG23; clear gb23 gl23 HG23; obtain ⟨hx23_0, hf23_0⟩ := Kd.R_celln (⟨#[]⟩ : ByteArray) HO_9.out (x10_2 : Int) p23 q23; replace p23 := eq_true p23; replace q23 := eq_true q23; obtain ⟨hy28_, hz28_⟩ := Kd.R_celln (⟨#[]⟩ : ByteArray) HO_9.out (x10_2 : Int) (of_decide_eq_true (by first | (with_reducible assumption) | assumption)) (of_decide_eq_true (by first | (with_reducible assumption) | assumption)); have HP28 := Kd.R_putg HO_9.out (x10_2 : Int) x0_2) | ((with_reducible refine Zd3 (t := 9) (p := 61) rfl ?_); refine Zdq (t := 9) (p := 61) (v := ?vo_w29) (w1 := (w27.setCell ⟨go23, (x10_2 : Int).toNat, none⟩ (.string x0_2))) ?hg ?ho ?hn ?hr ?_; (case ho => rfl); (case hg => rfl); (case hn => rfl); (case hr => first | (go_simp; done) | (go_simp; rfl)); intro w29 hw; have hg : w27.grownBy w29 (some go23) := (by rw [hw]; exact HP28.2); have hp_ : Kd.R Kd.string 9 w29 w.heap.size (fun _ => True) (.slice (some ⟨go23, 0, none⟩) x9_2.length co23) y109 := (by rw [hw, Ny109.out]; exact HP28.1); clear HP28; have n0_ := Zad.mk (hp_); have n1_ := Zad.mk ((by rw [hw]; exact Zah (HB.out) GB23.out : Below w.heap.size w w29)); clear HO_9; clear HB; have HO_9 := n0_; have HB := n1_; clear hg hw hp_; have hlg30 : (y109.length : Int) = (x9_2.length : Int) := (by rw [Ny109.out]; simp only [List.length_set]); have q30 : ((ji24) : Int) ≤ ((x9_2.length : Int) : Int) := of_decide_eq_true (by first | (with_reducible assumption) | assumption); obtain ⟨i030, hi030, _, hsz30, _⟩ := info_parts info9; have hcut30 := Zg7 (P := Tryz.prog) 22 9 .i64 Tryz.underlying22 hi030 (some ⟨go23, 0, none⟩) x9_2.length co23 (ji24) (of_decide_eq_true (by first | (with_reducible assumption) | assumption)) q30 (Kd.R_reads' HO_9.out).2.1; have hr30 := Kd.R_take (m := ((ji24) : Int).toNat) HO_9.out (by omega); have hy30 : y110.length = ((ji24) : Int).toNat := (by rw [Ny110.out, List.length_take]; omega); rw [← Ny110.out] at hr30; rw [← hy30] at hr30 hcut30; clear hy30 hi030 hsz30 HO_9; have HO112 := Zad.mk hr30; clear hr30; replace q30 := eq_true q30))
               go_ret
               exact ⟨_, by first | rfl | (simp [Zao, Zan] <;> rfl) | (simp only [← hji13, ← hji24]; first | rfl | (simp [Zao, Zan] <;> rfl)) | (simp [*, Zao, Zan] <;> rfl), by (with_reducible repeat (first | apply Kd.R_alloc | apply Kd.R_drewN | apply Kd.R_drew)); exact HO112.out, by repeat (first | (with_reducible first | exact HB.out | apply Zac | apply Zaa | apply Zab) | exact HB.out)⟩
              ·rw [if_neg c26] at H
               exact absurd H (by simp)
             ·rw [if_neg c25] at H
              exact absurd H (by simp)
            ·rw [if_neg c22] at H
             exact absurd H (by simp)
           ·rw [if_neg c21] at H
            exact absurd H (by simp)
          ·rw [if_neg c20] at H
           have c20b0 : decide (t108 < 0) = false := decide_eq_false c20
           clear c20
           obtain ⟨ji31, hji31⟩ : ∃ j_ : Int, (wrap64 (t108 + a2)) = j_ := ⟨_, rfl⟩
           replace H : (if 0 ≤ (ji31) then (if (ji31) ≤ (x0_2.size : Int) then (if 0 ≤ x10_2 then (if x10_2 < (x9_2.length : Int) then (if 0 ≤ (wrap64 (t108 + (a1.size : Int))) then (if (wrap64 (t108 + (a1.size : Int))) ≤ (x0_2.size : Int) then (Zax.l0 k2 (x0_2.extract ((wrap64 (t108 + (a1.size : Int))) : Int).toNat x0_2.size) a1 a2 (wrap64 ((ji13) - 1)) (x9_2.set (x10_2 : Int).toNat (x0_2.extract 0 ((ji31) : Int).toNat)) (wrap64 (x10_2 + 1))) else (none)) else (none)) else (none)) else (none)) else (none)) else (none)) = some r := by first | (rw [hji31] at H; exact H) | (simp only [hji31] at H ⊢; exact H)
           (try rw [hji31] at A19)
           have hji31w : (IntKind.i64.wrap (t108 + a2)) = ji31 := (i64_w _).trans hji31
           by_cases c32 : 0 ≤ (ji31)
           ·rw [if_pos c32] at H
            have c32b0 := eq_true c32
            have c32b1 : decide (0 ≤ (ji31)) = true := decide_eq_true c32
            clear c32
            by_cases c33 : (ji31) ≤ (x0_2.size : Int)
            ·rw [if_pos c33] at H
             have c33b0 := eq_true c33
             have c33b1 : decide ((ji31) ≤ (x0_2.size : Int)) = true := decide_eq_true c33
             clear c33
             by_cases c34 : 0 ≤ x10_2
             ·rw [if_pos c34] at H
              have c34b0 : decide (0 ≤ x10_2) = true := decide_eq_true c34
              clear c34
              by_cases c35 : x10_2 < (x9_2.length : Int)
              ·rw [if_pos c35] at H
               have c35b0 : decide (x10_2 < (x9_2.length : Int)) = true := decide_eq_true c35
               clear c35
               obtain ⟨y113, hy113⟩ : ∃ y_ : List ByteArray, y_ = (x9_2.set (x10_2 : Int).toNat (x0_2.extract 0 ((ji31) : Int).toNat)) := ⟨_, rfl⟩
               replace H : (if 0 ≤ (wrap64 (t108 + (a1.size : Int))) then (if (wrap64 (t108 + (a1.size : Int))) ≤ (x0_2.size : Int) then (Zax.l0 k2 (x0_2.extract ((wrap64 (t108 + (a1.size : Int))) : Int).toNat x0_2.size) a1 a2 (wrap64 ((ji13) - 1)) y113 (wrap64 (x10_2 + 1))) else (none)) else (none)) = some r := by first | (rw [hy113]; with_reducible exact H) | (have H2_ := (Option.bind_some _ _).symm.trans H; rw [hy113]; with_reducible exact H2_) | (have H2_ := (Option.bind_some _ _).symm.trans H; with_reducible exact H2_) | with_reducible exact H | (rw [hy113]; exact H) | exact H
               have Ny113 := Zad.mk hy113
               clear hy113
               obtain ⟨ji37, hji37⟩ : ∃ j_ : Int, (wrap64 (t108 + (a1.size : Int))) = j_ := ⟨_, rfl⟩
               replace H : (if 0 ≤ (ji37) then (if (ji37) ≤ (x0_2.size : Int) then (Zax.l0 k2 (x0_2.extract ((ji37) : Int).toNat x0_2.size) a1 a2 (wrap64 ((ji13) - 1)) y113 (wrap64 (x10_2 + 1))) else (none)) else (none)) = some r := by first | (rw [hji37] at H; exact H) | (simp only [hji37] at H ⊢; exact H)
               (try rw [hji37] at A19)
               have hji37w : (IntKind.i64.wrap (t108 + (a1.size : Int))) = ji37 := (i64_w _).trans hji37
               by_cases c38 : 0 ≤ (ji37)
               ·rw [if_pos c38] at H
                have c38b0 := eq_true c38
                have c38b1 : decide (0 ≤ (ji37)) = true := decide_eq_true c38
                clear c38
                by_cases c39 : (ji37) ≤ (x0_2.size : Int)
                ·rw [if_pos c39] at H
                 have c39b0 := eq_true c39
                 have c39b1 : decide ((ji37) ≤ (x0_2.size : Int)) = true := decide_eq_true c39
                 clear c39
                 have H' := Zad.mk H
                 clear H
                 go_wp2_with (first | ((with_reducible refine Zau (f := 126) rfl ?_); refine Zbr (some 39) rfl rfl Tryz.func126 (by kernel_rfl) rfl #[.string x0_2, .string a1] rfl (by (try simp only [List.map_toArray, List.map_cons, List.map_nil]); first | done | rfl | (simp only [List.length_drop, List.length_take]; rfl)) ?_; (with_reducible refine (Zcx.calls x0_2 a1 t108 _ A19.out).mono ?_); rintro e w40 ⟨rfl, hb⟩; refine ⟨_, rfl, ?_⟩; have n0_ := Zad.mk (Kd.R_below (by (with_reducible repeat (first | apply Kd.R_alloc | apply Kd.R_drewN | apply Kd.R_drew)); exact HO_9.out) hb); have n1_ := Zad.mk (Zal (by with_reducible repeat first | exact HB.out | apply Zac | apply Zaa | apply Zab) hb); clear HO_9; clear HB; have HO_9 := n0_; have HB := n1_; have p36 : 0 ≤ (x10_2 : Int) := of_decide_eq_true (by first | (with_reducible assumption) | assumption); have q36 : (x10_2 : Int) < ((x9_2.length : Int) : Int) := of_decide_eq_true (by first | (with_reducible assumption) | assumption); obtain ⟨go36, co36, eo36, gb36, gl36, cl36, HG36⟩ := Kd.R_form HO_9.out (by omega); (first | cases eo36 | (injection eo36 with ea_ en_ ec_; (first | subst ea_ | (injection ea_ with ea_; subst ea_)); subst ec_; clear en_)); have GB36 := Zad.mk gb36; have GG36 := Zad.mk HG36; clear gb36 gl36 HG36; obtain ⟨hx36_0, hf36_0⟩ := Kd.R_celln (⟨#[]⟩ : ByteArray) HO_9.out (x10_2 : Int) p36 q36; replace p36 := eq_true p36; replace q36 := eq_true q36; obtain ⟨hy41_, hz41_⟩ := Kd.R_celln (⟨#[]⟩ : ByteArray) HO_9.out (x10_2 : Int) (of_decide_eq_true (by first | (with_reducible assumption) | assumption)) (of_decide_eq_true (by first | (with_reducible assumption) | assumption)); have HP41 := Kd.R_putg HO_9.out (x10_2 : Int) (x0_2.extract 0 ((ji31) : Int).toNat)) | ((with_reducible refine Zd3 (t := 9) (p := 49) rfl ?_); refine Zdq (t := 9) (p := 49) (v := ?vo_w42) (w1 := (w40.setCell ⟨go36, (x10_2 : Int).toNat, none⟩ (.string (x0_2.extract 0 ((ji31) : Int).toNat)))) ?hg ?ho ?hn ?hr ?_; (case ho => rfl); (case hg => rfl); (case hn => rfl); (case hr => first | (go_simp; done) | (go_simp; rfl)); intro w42 hw; have hg : w40.grownBy w42 (some go36) := (by rw [hw]; exact HP41.2); have hp_ : Kd.R Kd.string 9 w42 w.heap.size (fun _ => True) (.slice (some ⟨go36, 0, none⟩) x9_2.length co36) y113 := (by rw [hw, Ny113.out]; exact HP41.1); clear HP41; have n0_ := Zad.mk (hp_); have n1_ := Zad.mk ((by rw [hw]; exact Zah (HB.out) GB36.out : Below w.heap.size w w42)); clear HO_9; clear HB; have HO_9 := n0_; have HB := n1_; clear hg hw hp_))
                 go_roundg k2
                 case measure => have := HJ8.out; have := HK2.out; omega
                 case rel => exact ⟨(x0_2.extract ((ji37) : Int).toNat x0_2.size), (y113), (wrap64 (x10_2 + 1)), (by first | rfl | (simp; done) | (simp only [← hji37] <;> (first | rfl | simp)) | (simp [*]; done)), (by first | rfl | (simp; done) | (simp [*]; done)), H', ⟨by have := HJ8.out; have := HK2.out; omega⟩, ⟨by (with_reducible repeat (first | apply Kd.R_alloc | apply Kd.R_drewN | apply Kd.R_drew)); exact HO_9.out⟩, ⟨by with_reducible repeat first | exact HB.out | apply Zac | apply Zaa | apply Zab⟩⟩
                ·rw [if_neg c39] at H
                 exact absurd H (by simp)
               ·rw [if_neg c38] at H
                exact absurd H (by simp)
              ·rw [if_neg c35] at H
               exact absurd H (by simp)
             ·rw [if_neg c34] at H
              exact absurd H (by simp)
            ·rw [if_neg c33] at H
             exact absurd H (by simp)
           ·rw [if_neg c32] at H
            exact absurd H (by simp)
         ·rw [if_neg c18] at H
          have c18b0 : decide (x10_2 < (wrap64 ((ji13) - 1))) = false := decide_eq_false c18
          clear c18
          by_cases c43 : 0 ≤ x10_2
          ·rw [if_pos c43] at H
           have c43b0 : decide (0 ≤ x10_2) = true := decide_eq_true c43
           clear c43
           by_cases c44 : x10_2 < (x9_2.length : Int)
           ·rw [if_pos c44] at H
            have c44b0 : decide (x10_2 < (x9_2.length : Int)) = true := decide_eq_true c44
            clear c44
            obtain ⟨y114, hy114⟩ : ∃ y_ : List ByteArray, y_ = (x9_2.set (x10_2 : Int).toNat x0_2) := ⟨_, rfl⟩
            replace H : (if 0 ≤ (wrap64 (x10_2 + 1)) then (if (wrap64 (x10_2 + 1)) ≤ (x9_2.length : Int) then (some (y114.take ((wrap64 (x10_2 + 1)) : Int).toNat)) else (none)) else (none)) = some r := by first | (rw [hy114]; with_reducible exact H) | (have H2_ := (Option.bind_some _ _).symm.trans H; rw [hy114]; with_reducible exact H2_) | (have H2_ := (Option.bind_some _ _).symm.trans H; with_reducible exact H2_) | with_reducible exact H | (rw [hy114]; exact H) | exact H
            have Ny114 := Zad.mk hy114
            clear hy114
            obtain ⟨ji46, hji46⟩ : ∃ j_ : Int, (wrap64 (x10_2 + 1)) = j_ := ⟨_, rfl⟩
            replace H : (if 0 ≤ (ji46) then (if (ji46) ≤ (x9_2.length : Int) then (some (y114.take ((ji46) : Int).toNat)) else (none)) else (none)) = some r := by first | (rw [hji46] at H; exact H) | (simp only [hji46] at H ⊢; exact H)
            have hji46w : (IntKind.i64.wrap (x10_2 + 1)) = ji46 := (i64_w _).trans hji46
            by_cases c47 : 0 ≤ (ji46)
            ·rw [if_pos c47] at H
             have c47b0 := eq_true c47
             have c47b1 : decide (0 ≤ (ji46)) = true := decide_eq_true c47
             clear c47
             by_cases c48 : (ji46) ≤ (x9_2.length : Int)
             ·rw [if_pos c48] at H
              have c48b0 := eq_true c48
              have c48b1 : decide ((ji46) ≤ (x9_2.length : Int)) = true := decide_eq_true c48
              clear c48
              obtain ⟨y115, hy115⟩ : ∃ y_ : List ByteArray, y_ = (y114.take ((ji46) : Int).toNat) := ⟨_, rfl⟩
              replace H : (some y115) = some r := by first | (rw [hy115]; with_reducible exact H) | (have H2_ := (Option.bind_some _ _).symm.trans H; rw [hy115]; with_reducible exact H2_) | (have H2_ := (Option.bind_some _ _).symm.trans H; with_reducible exact H2_) | with_reducible exact H | (rw [hy115]; exact H) | exact H
              have Ny115 := Zad.mk hy115
              clear hy115
              obtain rfl := Option.some.inj H
              have p45 : 0 ≤ (x10_2 : Int) := of_decide_eq_true (by first | (with_reducible assumption) | assumption)
              have q45 : (x10_2 : Int) < ((x9_2.length : Int) : Int) := of_decide_eq_true (by first | (with_reducible assumption) | assumption)
              obtain ⟨go45, co45, eo45, gb45, gl45, cl45, HG45⟩ := Kd.R_form HO_9.out (by omega)
              (first | cases eo45 | (injection eo45 with ea_ en_ ec_; (first | subst ea_ | (injection ea_ with ea_; subst ea_)); subst ec_; clear en_))
              have GB45 := Zad.mk gb45
              have GG45 := Zad.mk HG45
              clear gb45 gl45 HG45
              obtain ⟨hx45_0, hf45_0⟩ := Kd.R_celln (⟨#[]⟩ : ByteArray) HO_9.out (x10_2 : Int) p45 q45
              replace p45 := eq_true p45
              replace q45 := eq_true q45
              have HP49 := Kd.R_putg HO_9.out (x10_2 : Int) x0_2
              go_wp2_with (first | ((with_reducible refine Zd3 (t := 9) (p := 61) rfl ?_); refine Zdq (t := 9) (p := 61) (v := ?vo_w50) (w1 := (wr.setCell ⟨go45, (x10_2 : Int).toNat, none⟩ (.string x0_2))) ?hg ?ho ?hn ?hr ?_; (case ho => rfl); (case hg => rfl); (case hn => rfl); (case hr => first | (go_simp; done) | (go_simp; rfl)); intro w50 hw; have hg : wr.grownBy w50 (some go45) := (by rw [hw]; exact HP49.2); have hp_ : Kd.R Kd.string 9 w50 w.heap.size (fun _ => True) (.slice (some ⟨go45, 0, none⟩) x9_2.length co45) y114 := (by rw [hw, Ny114.out]; exact HP49.1); clear HP49; have n0_ := Zad.mk (hp_); have n1_ := Zad.mk ((by rw [hw]; exact Zah (HB.out) GB45.out : Below w.heap.size w w50)); clear HO_9; clear HB; have HO_9 := n0_; have HB := n1_; clear hg hw hp_; have hlg51 : (y114.length : Int) = (x9_2.length : Int) := (by rw [Ny114.out]; simp only [List.length_set]); have q51 : ((ji46) : Int) ≤ ((x9_2.length : Int) : Int) := of_decide_eq_true (by first | (with_reducible assumption) | assumption); obtain ⟨i051, hi051, _, hsz51, _⟩ := info_parts info9; have hcut51 := Zg7 (P := Tryz.prog) 22 9 .i64 Tryz.underlying22 hi051 (some ⟨go45, 0, none⟩) x9_2.length co45 (ji46) (of_decide_eq_true (by first | (with_reducible assumption) | assumption)) q51 (Kd.R_reads' HO_9.out).2.1; have hr51 := Kd.R_take (m := ((ji46) : Int).toNat) HO_9.out (by omega); have hy51 : y115.length = ((ji46) : Int).toNat := (by rw [Ny115.out, List.length_take]; omega); rw [← Ny115.out] at hr51; rw [← hy51] at hr51 hcut51; clear hy51 hi051 hsz51 HO_9; have HO117 := Zad.mk hr51; clear hr51; replace q51 := eq_true q51))
              go_ret
              exact ⟨_, by first | rfl | (simp [Zao, Zan] <;> rfl) | (simp only [← hji13, ← hji46]; first | rfl | (simp [Zao, Zan] <;> rfl)) | (simp [*, Zao, Zan] <;> rfl), by (with_reducible repeat (first | apply Kd.R_alloc | apply Kd.R_drewN | apply Kd.R_drew)); exact HO117.out, by repeat (first | (with_reducible first | exact HB.out | apply Zac | apply Zaa | apply Zab) | exact HB.out)⟩
             ·rw [if_neg c48] at H
              exact absurd H (by simp)
            ·rw [if_neg c47] at H
             exact absurd H (by simp)
           ·rw [if_neg c44] at H
            exact absurd H (by simp)
          ·rw [if_neg c43] at H
           exact absurd H (by simp)
      ·rw [if_neg c15] at H
       exact absurd H (by simp)
     ·rw [if_neg c14] at H
      exact absurd H (by simp)
def Zcr.f (k : Nat) (a0 : ByteArray) (a1 : ByteArray) : Option (List ByteArray) := (Zax.f k a0 a1 0 (-1)).bind fun t101 => (some t101)
set_option maxHeartbeats 8000000 in
set_option maxRecDepth 100000 in
theorem Zcr.calls (k : Nat) (a0 : ByteArray) (a1 : ByteArray) (r : List ByteArray) (w : World) (h : Zcr.f k a0 a1 = some r) :
  Calls Tryz.prog 104 #[.string a0, .string a1] w fun e w' => ∃ v0_ : Value, e = .returned (v0_) ∧ Kd.R Kd.string 9 w' w.heap.size (fun _ => True) v0_ r ∧ Below w.heap.size w w' := by
 have HB := Zad.mk (Below.refl w.heap.size w)
 have H : ((Zax.f k a0 a1 0 (-1)).bind fun t101 => (some t101)) = some r := h
 clear h
 replace H := Option.bind_eq_some_iff.mp H
 obtain ⟨t101, A30, H⟩ := H
 replace H : (some t101) = some r := H
 have A3 := Zad.mk A30
 clear A30
 obtain rfl := Option.some.inj H
 go_enter Tryz.func104, Tryz.ntmps104
 go_wp2_with (first | ((with_reducible refine Zau (f := 156) rfl ?_); refine Zbr (some 7) rfl rfl Tryz.func156 (by kernel_rfl) rfl #[.string a0, .string a1, .int .i64 0, .int .i64 (-1)] rfl (by (try simp only [List.map_toArray, List.map_cons, List.map_nil]); first | done | rfl | (simp only [List.length_drop, List.length_take]; rfl)) ?_; (with_reducible refine (Zax.calls k a0 a1 0 (-1) t101 _ A3.out).mono ?_); rintro e w4 ⟨v102, rfl, ho0, hb⟩; refine ⟨_, rfl, ?_⟩; have n0_ := Zad.mk (Kd.R_lower ho0 (Zak (by with_reducible repeat first | exact HB.out | apply Zac | apply Zaa | apply Zab))); have n1_ := Zad.mk (Zal (by with_reducible repeat first | exact HB.out | apply Zac | apply Zaa | apply Zab) hb); clear HB; have HO103 := n0_; have HB := n1_))
 go_ret
 exact ⟨_, by first | rfl | (simp [Zao, Zan] <;> rfl) | (simp [*, Zao, Zan] <;> rfl), by (with_reducible repeat (first | apply Kd.R_alloc | apply Kd.R_drewN | apply Kd.R_drew)); exact HO103.out, by repeat (first | (with_reducible first | exact HB.out | apply Zac | apply Zaa | apply Zab) | exact HB.out)⟩
def Zcl.f (a0 : Int) (a1 : Int) (a2 : Int) : Option (Bool) := if a1 ≤ a0 then (some (decide (a0 ≤ a2))) else (some false)
set_option maxHeartbeats 8000000 in
set_option maxRecDepth 100000 in
theorem Zcl.calls (a0 : Int) (a1 : Int) (a2 : Int) (r : Bool) (w : World) (h : Zcl.f a0 a1 a2 = some r) :
  Calls Tryz.prog 157 #[.int .i64 a0, .int .i64 a1, .int .i64 a2] w fun e w' => e = .returned (.bool r) ∧ Za8 w w' := by
 have H : (if a1 ≤ a0 then (some (decide (a0 ≤ a2))) else (some false)) = some r := h
 clear h
 by_cases c4 : a1 ≤ a0
 ·rw [if_pos c4] at H
  have c4b0 : decide (a1 ≤ a0) = true := decide_eq_true c4
  clear c4
  obtain rfl := Option.some.inj H
  go_enter Tryz.func157, Tryz.ntmps157
  go_wp2
  go_ret
  exact ⟨by first | rfl | (simp; done) | (simp [*]; done), by repeat (first | exact Za8.refl _ | apply Za8.step)⟩
 ·rw [if_neg c4] at H
  have c4b0 : decide (a1 ≤ a0) = false := decide_eq_false c4
  clear c4
  obtain rfl := Option.some.inj H
  go_enter Tryz.func157, Tryz.ntmps157
  go_wp2
  go_ret
  exact ⟨by first | rfl | (simp; done) | (simp [*]; done), by repeat (first | exact Za8.refl _ | apply Za8.step)⟩
def Zcz.f (a0 : Int) (a1 : Int) : Option (Bool) := (Zcl.f a0 1 7).bind fun t101 => (if t101 = true then ((Zcl.f a1 1 7).bind fun t102 => (if t102 = true then (some (decide ((wrap64 (a0 * a1)) ≤ 36))) else (some false))) else (some false))
set_option maxHeartbeats 8000000 in
set_option maxRecDepth 100000 in
theorem Zcz.calls (a0 : Int) (a1 : Int) (r : Bool) (w : World) (h : Zcz.f a0 a1 = some r) :
  Calls Tryz.prog 105 #[.int .i64 a0, .int .i64 a1] w fun e w' => e = .returned (.bool r) ∧ Za8 w w' := by
 have H : ((Zcl.f a0 1 7).bind fun t101 => (if t101 = true then ((Zcl.f a1 1 7).bind fun t102 => (if t102 = true then (some (decide ((wrap64 (a0 * a1)) ≤ 36))) else (some false))) else (some false))) = some r := h
 clear h
 replace H := Option.bind_eq_some_iff.mp H
 obtain ⟨t101, A30, H⟩ := H
 replace H : (if t101 = true then ((Zcl.f a1 1 7).bind fun t102 => (if t102 = true then (some (decide ((wrap64 (a0 * a1)) ≤ 36))) else (some false))) else (some false)) = some r := H
 have A3 := Zad.mk A30
 clear A30
 by_cases c4 : t101 = true
 ·subst c4
  have H1 : ((Zcl.f a1 1 7).bind fun t102 => (if t102 = true then (some (decide ((wrap64 (a0 * a1)) ≤ 36))) else (some false))) = some r := by rw [if_pos rfl] at H; exact H
  clear H
  have H := H1
  clear H1
  replace H := Option.bind_eq_some_iff.mp H
  obtain ⟨t102, A50, H⟩ := H
  replace H : (if t102 = true then (some (decide ((wrap64 (a0 * a1)) ≤ 36))) else (some false)) = some r := H
  have A5 := Zad.mk A50
  clear A50
  by_cases c6 : t102 = true
  ·subst c6
   have H1 : (some (decide ((wrap64 (a0 * a1)) ≤ 36))) = some r := by rw [if_pos rfl] at H; exact H
   clear H
   have H := H1
   clear H1
   obtain rfl := Option.some.inj H
   go_enter Tryz.func105, Tryz.ntmps105
   go_wp2_with (first | ((with_reducible refine Zau (f := 157) rfl ?_); refine Zbr (some 6) rfl rfl Tryz.func157 (by kernel_rfl) rfl #[.int .i64 a0, .int .i64 1, .int .i64 7] rfl (by (try simp only [List.map_toArray, List.map_cons, List.map_nil]); first | done | rfl | (simp only [List.length_drop, List.length_take]; rfl)) ?_; (with_reducible refine (Zcl.calls a0 1 7 true _ A3.out).mono ?_); rintro e w' ⟨rfl, ⟨nd, rfl⟩⟩; refine ⟨_, rfl, ?_⟩) | (go_at_call 157; (with_reducible refine (Zcl.calls a1 1 7 true _ A5.out).mono ?_); rintro e w' ⟨rfl, ⟨nd, rfl⟩⟩))
   go_ret
   exact ⟨by first | rfl | (simp; done) | (simp [*]; done), by repeat (first | exact Za8.refl _ | apply Za8.step)⟩
  ·replace c6 := Bool.eq_false_iff.mpr c6
   subst c6
   have H1 : (some false) = some r := by rw [if_neg (show ¬ (false = true) by decide)] at H; exact H
   clear H
   have H := H1
   clear H1
   obtain rfl := Option.some.inj H
   go_enter Tryz.func105, Tryz.ntmps105
   go_wp2_with (first | ((with_reducible refine Zau (f := 157) rfl ?_); refine Zbr (some 6) rfl rfl Tryz.func157 (by kernel_rfl) rfl #[.int .i64 a0, .int .i64 1, .int .i64 7] rfl (by (try simp only [List.map_toArray, List.map_cons, List.map_nil]); first | done | rfl | (simp only [List.length_drop, List.length_take]; rfl)) ?_; (with_reducible refine (Zcl.calls a0 1 7 true _ A3.out).mono ?_); rintro e w' ⟨rfl, ⟨nd, rfl⟩⟩; refine ⟨_, rfl, ?_⟩) | (go_at_call 157; (with_reducible refine (Zcl.calls a1 1 7 false _ A5.out).mono ?_); rintro e w' ⟨rfl, ⟨nd, rfl⟩⟩))
   go_ret
   exact ⟨by first | rfl | (simp; done) | (simp [*]; done), by repeat (first | exact Za8.refl _ | apply Za8.step)⟩
 ·replace c4 := Bool.eq_false_iff.mpr c4
  subst c4
  have H1 : (some false) = some r := by rw [if_neg (show ¬ (false = true) by decide)] at H; exact H
  clear H
  have H := H1
  clear H1
  obtain rfl := Option.some.inj H
  go_enter Tryz.func105, Tryz.ntmps105
  go_wp2_with (first | ((with_reducible refine Zau (f := 157) rfl ?_); refine Zbr (some 6) rfl rfl Tryz.func157 (by kernel_rfl) rfl #[.int .i64 a0, .int .i64 1, .int .i64 7] rfl (by (try simp only [List.map_toArray, List.map_cons, List.map_nil]); first | done | rfl | (simp only [List.length_drop, List.length_take]; rfl)) ?_; (with_reducible refine (Zcl.calls a0 1 7 false _ A3.out).mono ?_); rintro e w' ⟨rfl, ⟨nd, rfl⟩⟩; refine ⟨_, rfl, ?_⟩))
  go_ret
  exact ⟨by first | rfl | (simp; done) | (simp [*]; done), by repeat (first | exact Za8.refl _ | apply Za8.step)⟩
mutual
def Zba.l0 : Nat → ByteArray → List ByteArray → List ByteArray → Int → Int → Option (Bool)
 | 0, _, _, _, _, _ => none
 | k + 1, x0, x3, x17, x18, x19 => if x19 < x18 then (if 0 ≤ x19 then (if x19 < (x17.length : Int) then (if 0 < (x3.length : Int) then (if ((rdOf ByteArray.empty x17 x19).size : Int) = ((rdOf ByteArray.empty x3 0).size : Int) then ((Zca.f (rdOf ByteArray.empty x17 x19) (⟨#[35, 46, 111, 97, 98, 99, 100, 101, 102]⟩ : ByteArray)).bind fun t108 => (if t108.toList = ([] : List UInt8) then (Zba.l0 k x0 x3 x17 x18 (wrap64 (x19 + 1))) else (some false))) else (some false)) else (none)) else (none)) else (none)) else (Zba.l1 k x0 97)
def Zba.l1 : Nat → ByteArray → Int → Option (Bool)
 | 0, _, _ => none
 | k + 1, x0, x6 => if x6 ≤ 102 then ((Zb0.f x0 (Utf8.encode x6)).bind fun t109 => (if t109 > 1 then (some false) else (Zba.l1 k x0 (wrap32 (x6 + 1))))) else (some true)
end
def Zba.f (k : Nat) (a0 : ByteArray) : Option (Bool) := (Zcr.f k a0 (⟨#[47]⟩ : ByteArray)).bind fun t101 => (if 0 < (t101.length : Int) then ((Zcz.f ((rdOf ByteArray.empty t101 0).size : Int) (t101.length : Int)).bind fun t105 => (if t105 = true then (Zba.l0 k a0 t101 t101 (t101.length : Int) 0) else (some false))) else (none))
set_option maxHeartbeats 8000000 in
set_option maxRecDepth 100000 in
theorem Zba.calls (k : Nat) (a0 : ByteArray) (r : Bool) (w : World) (h : Zba.f k a0 = some r) :
  Calls Tryz.prog 68 #[.string a0] w fun e w' => e = .returned (.bool r) ∧ Below w.heap.size w w' := by
 have HB := Zad.mk (Below.refl w.heap.size w)
 have H : ((Zcr.f k a0 (⟨#[47]⟩ : ByteArray)).bind fun t101 => (if 0 < (t101.length : Int) then ((Zcz.f ((rdOf ByteArray.empty t101 0).size : Int) (t101.length : Int)).bind fun t105 => (if t105 = true then (Zba.l0 k a0 t101 t101 (t101.length : Int) 0) else (some false))) else (none))) = some r := h
 clear h
 replace H := Option.bind_eq_some_iff.mp H
 obtain ⟨t101, A20, H⟩ := H
 replace H : (if 0 < (t101.length : Int) then ((Zcz.f ((rdOf ByteArray.empty t101 0).size : Int) (t101.length : Int)).bind fun t105 => (if t105 = true then (Zba.l0 k a0 t101 t101 (t101.length : Int) 0) else (some false))) else (none)) = some r := H
 have A2 := Zad.mk A20
 clear A20
 by_cases c3 : 0 < (t101.length : Int)
 ·rw [if_pos c3] at H
  have c3b0 : decide (0 < (t101.length : Int)) = true := decide_eq_true c3
  have c3b1 : decide (0 < t101.length) = true := decide_eq_true (by omega)
  clear c3
  replace H := Option.bind_eq_some_iff.mp H
  obtain ⟨t105, A40, H⟩ := H
  replace H : (if t105 = true then (Zba.l0 k a0 t101 t101 (t101.length : Int) 0) else (some false)) = some r := H
  have A4 := Zad.mk A40
  clear A40
  by_cases c5 : t105 = true
  ·subst c5
   have H1 : (Zba.l0 k a0 t101 t101 (t101.length : Int) 0) = some r := by rw [if_pos rfl] at H; exact H
   clear H
   have H := H1
   clear H1
   have H' := Zad.mk H
   clear H
   go_enter Tryz.func68, Tryz.ntmps68
   go_wp2_with (first | ((with_reducible refine Zau (f := 104) rfl ?_); refine Zbr (some 8) rfl rfl Tryz.func104 (by kernel_rfl) rfl #[.string a0, .string (⟨#[47]⟩ : ByteArray)] rfl (by (try simp only [List.map_toArray, List.map_cons, List.map_nil]); first | done | rfl | (simp only [List.length_drop, List.length_take]; rfl)) ?_; (with_reducible refine (Zcr.calls k a0 (⟨#[47]⟩ : ByteArray) t101 _ A2.out).mono ?_); rintro e w6 ⟨v102, rfl, ho0, hb⟩; refine ⟨_, rfl, ?_⟩; have n0_ := Zad.mk (Kd.R_lower ho0 (Zak (by with_reducible repeat first | exact HB.out | apply Zac | apply Zaa | apply Zab))); have n1_ := Zad.mk (Zal (by with_reducible repeat first | exact HB.out | apply Zac | apply Zaa | apply Zab) hb); clear HB; have HO103 := n0_; have HB := n1_; obtain ⟨Ao7, co7, eo7⟩ := Kd.R_slice HO103.out; subst eo7; have p104 : 0 ≤ (0 : Int) := (by omega); have q104 : 0 < (t101.length : Int) := of_decide_eq_true (by first | (with_reducible assumption) | assumption); obtain ⟨ad104, e104, hx104_0⟩ := Kd.at_string (Kd.R_reads' HO103.out).2.2 0 p104 q104; cases e104; have qi104 : (0 < t101.length) = True := eq_true (by omega); (try rw [show ((0 : Int)).toNat = 0 from rfl] at hx104_0); (try rw [Addr.add_zero'] at hx104_0); replace p104 := eq_true p104; replace q104 := eq_true q104) | ((with_reducible refine Zau (f := 105) rfl ?_); refine Zbr (some 15) rfl rfl Tryz.func105 (by kernel_rfl) rfl #[.int .i64 ((rdOf ByteArray.empty t101 0).size : Int), .int .i64 (t101.length : Int)] rfl (by (try simp only [List.map_toArray, List.map_cons, List.map_nil]); first | done | rfl | (simp only [List.length_drop, List.length_take]; rfl)) ?_; (with_reducible refine (Zcz.calls ((rdOf ByteArray.empty t101 0).size : Int) (t101.length : Int) true _ A4.out).mono ?_); rintro e w' ⟨rfl, ⟨nd, rfl⟩⟩; refine ⟨_, rfl, ?_⟩))
   go_loopg [19] k (fun kq v19 w' => ∃ (x19_1 : Int), v19 = .int .i64 x19_1 ∧ Zad (Zba.l0 kq a0 t101 t101 (t101.length : Int) x19_1 = some r) ∧ Zad (kq ≤ k) ∧ Zad (Kd.R Kd.string 9 w' w.heap.size (fun _ => True) (.slice (some ad104) t101.length co7) t101) ∧ Zad (Kd.R Kd.string 9 w' w.heap.size (fun _ => True) (.slice (some ad104) t101.length co7) t101) ∧ Zad (Below w.heap.size w w'))
   case atStart => exact ⟨(0), (by first | rfl | (simp; done) | (simp [*]; done)), H', ⟨Nat.le_refl _⟩, ⟨by (with_reducible repeat (first | apply Kd.R_alloc | apply Kd.R_drewN | apply Kd.R_drew)); exact HO103.out⟩, ⟨by (with_reducible repeat (first | apply Kd.R_alloc | apply Kd.R_drewN | apply Kd.R_drew)); exact HO103.out⟩, ⟨by with_reducible repeat first | exact HB.out | apply Zac | apply Zaa | apply Zab⟩⟩
   case round =>
    clear H'
    obtain ⟨x19_1, rfl, HA, HK1, HO_3, HO_17, HB⟩ := hrel
    cases gk with
    | zero => exact absurd HA.out (by simp [Zba.l0])
    | succ k1 =>
     have H := HA.out
     clear HA
     simp only [Zba.l0] at H
     by_cases c8 : x19_1 < (t101.length : Int)
     ·rw [if_pos c8] at H
      have c8b0 : decide (x19_1 < (t101.length : Int)) = true := decide_eq_true c8
      clear c8
      by_cases c9 : 0 ≤ x19_1
      ·rw [if_pos c9] at H
       have c9b0 : decide (0 ≤ x19_1) = true := decide_eq_true c9
       clear c9
       by_cases c10 : x19_1 < (t101.length : Int)
       ·rw [if_pos c10] at H
        have c10b0 : decide (x19_1 < (t101.length : Int)) = true := decide_eq_true c10
        clear c10
        by_cases c11 : 0 < (t101.length : Int)
        ·rw [if_pos c11] at H
         have c11b0 : decide (0 < (t101.length : Int)) = true := decide_eq_true c11
         have c11b1 : decide (0 < t101.length) = true := decide_eq_true (by omega)
         clear c11
         by_cases c12 : ((rdOf ByteArray.empty t101 x19_1).size : Int) = ((rdOf ByteArray.empty t101 0).size : Int)
         ·rw [if_pos c12] at H
          have c12b0 : (((rdOf ByteArray.empty t101 x19_1).size : Int) == ((rdOf ByteArray.empty t101 0).size : Int)) = true := beq_iff_eq.mpr c12
          have c12b1 : (((rdOf ByteArray.empty t101 x19_1).size : Int) != ((rdOf ByteArray.empty t101 0).size : Int)) = false := bne_eq_false_iff_eq.mpr c12
          have c12b2 : ((rdOf ByteArray.empty t101 x19_1).size == (rdOf ByteArray.empty t101 0).size) = true := by first | simpa using c12 | (simp at c12 ⊢; omega)
          clear c12
          replace H := Option.bind_eq_some_iff.mp H
          obtain ⟨t108, A130, H⟩ := H
          replace H : (if t108.toList = ([] : List UInt8) then (Zba.l0 k1 a0 t101 t101 (t101.length : Int) (wrap64 (x19_1 + 1))) else (some false)) = some r := H
          have A13 := Zad.mk A130
          clear A130
          by_cases c14 : t108.toList = ([] : List UInt8)
          ·rw [if_pos c14] at H
           have c14b0 : (t108.toList == ([] : List UInt8)) = true := beq_iff_eq.mpr c14
           have c14b1 : (t108.toList != ([] : List UInt8)) = false := bne_eq_false_iff_eq.mpr c14
           clear c14
           have H' := Zad.mk H
           clear H
           have p106 : 0 ≤ (x19_1 : Int) := of_decide_eq_true (by first | (with_reducible assumption) | assumption)
           have q106 : x19_1 < (t101.length : Int) := of_decide_eq_true (by first | (with_reducible assumption) | assumption)
           obtain ⟨ad106, e106, hx106_0⟩ := Kd.at_string (Kd.R_reads' HO_17.out).2.2 x19_1 p106 q106
           obtain rfl : ad104 = ad106 := (by injection e106)
           replace p106 := eq_true p106
           replace q106 := eq_true q106
           have p107 : 0 ≤ (0 : Int) := (by omega)
           have q107 : 0 < (t101.length : Int) := of_decide_eq_true (by first | (with_reducible assumption) | assumption)
           obtain ⟨ad107, e107, hx107_0⟩ := Kd.at_string (Kd.R_reads' HO_3.out).2.2 0 p107 q107
           obtain rfl : ad104 = ad107 := (by injection e107)
           have qi107 : (0 < t101.length) = True := eq_true (by omega)
           (try rw [show ((0 : Int)).toNat = 0 from rfl] at hx107_0)
           (try rw [Addr.add_zero'] at hx107_0)
           replace p107 := eq_true p107
           replace q107 := eq_true q107
           go_wp2_with (first | (go_at_call 106; (with_reducible refine (Zca.calls (rdOf ByteArray.empty t101 x19_1) (⟨#[35, 46, 111, 97, 98, 99, 100, 101, 102]⟩ : ByteArray) t108 _ A13.out).mono ?_); rintro e w15 ⟨rfl, hb⟩; have n0_ := Zad.mk (Kd.R_below (by (with_reducible repeat (first | apply Kd.R_alloc | apply Kd.R_drewN | apply Kd.R_drew)); exact HO_3.out) hb); have n1_ := Zad.mk (Kd.R_below (by (with_reducible repeat (first | apply Kd.R_alloc | apply Kd.R_drewN | apply Kd.R_drew)); exact HO_17.out) hb); have n2_ := Zad.mk (Zal (by with_reducible repeat first | exact HB.out | apply Zac | apply Zaa | apply Zab) hb); clear HO_3; clear HO_17; clear HB; have HO_3 := n0_; have HO_17 := n1_; have HB := n2_))
           go_roundg k1
           case measure => have := HK1.out; omega
           case rel => exact ⟨(wrap64 (x19_1 + 1)), (by first | rfl | (simp; done) | (simp [*]; done)), H', ⟨by have := HK1.out; omega⟩, ⟨by (with_reducible repeat (first | apply Kd.R_alloc | apply Kd.R_drewN | apply Kd.R_drew)); exact HO_3.out⟩, ⟨by (with_reducible repeat (first | apply Kd.R_alloc | apply Kd.R_drewN | apply Kd.R_drew)); exact HO_17.out⟩, ⟨by with_reducible repeat first | exact HB.out | apply Zac | apply Zaa | apply Zab⟩⟩
          ·rw [if_neg c14] at H
           have c14b0 : (t108.toList == ([] : List UInt8)) = false := beq_eq_false_iff_ne.mpr c14
           have c14b1 : (t108.toList != ([] : List UInt8)) = true := bne_iff_ne.mpr c14
           obtain rfl := Option.some.inj H
           have p106 : 0 ≤ (x19_1 : Int) := of_decide_eq_true (by first | (with_reducible assumption) | assumption)
           have q106 : x19_1 < (t101.length : Int) := of_decide_eq_true (by first | (with_reducible assumption) | assumption)
           obtain ⟨ad106, e106, hx106_0⟩ := Kd.at_string (Kd.R_reads' HO_17.out).2.2 x19_1 p106 q106
           obtain rfl : ad104 = ad106 := (by injection e106)
           replace p106 := eq_true p106
           replace q106 := eq_true q106
           have p107 : 0 ≤ (0 : Int) := (by omega)
           have q107 : 0 < (t101.length : Int) := of_decide_eq_true (by first | (with_reducible assumption) | assumption)
           obtain ⟨ad107, e107, hx107_0⟩ := Kd.at_string (Kd.R_reads' HO_3.out).2.2 0 p107 q107
           obtain rfl : ad104 = ad107 := (by injection e107)
           have qi107 : (0 < t101.length) = True := eq_true (by omega)
           (try rw [show ((0 : Int)).toNat = 0 from rfl] at hx107_0)
           (try rw [Addr.add_zero'] at hx107_0)
           replace p107 := eq_true p107
           replace q107 := eq_true q107
           go_wp2_with (first | (go_at_call 106; (with_reducible refine (Zca.calls (rdOf ByteArray.empty t101 x19_1) (⟨#[35, 46, 111, 97, 98, 99, 100, 101, 102]⟩ : ByteArray) t108 _ A13.out).mono ?_); rintro e w16 ⟨rfl, hb⟩; have n0_ := Zad.mk (Kd.R_below (by (with_reducible repeat (first | apply Kd.R_alloc | apply Kd.R_drewN | apply Kd.R_drew)); exact HO_3.out) hb); have n1_ := Zad.mk (Kd.R_below (by (with_reducible repeat (first | apply Kd.R_alloc | apply Kd.R_drewN | apply Kd.R_drew)); exact HO_17.out) hb); have n2_ := Zad.mk (Zal (by with_reducible repeat first | exact HB.out | apply Zac | apply Zaa | apply Zab) hb); clear HO_3; clear HO_17; clear HB; have HO_3 := n0_; have HO_17 := n1_; have HB := n2_))
           go_ret
           exact ⟨by first | rfl | (simp [Zao, Zan] <;> rfl) | (simp [*, Zao, Zan] <;> rfl), by repeat (first | (with_reducible first | exact HB.out | apply Zac | apply Zaa | apply Zab) | exact HB.out)⟩
         ·rw [if_neg c12] at H
          have c12b0 : (((rdOf ByteArray.empty t101 x19_1).size : Int) == ((rdOf ByteArray.empty t101 0).size : Int)) = false := beq_eq_false_iff_ne.mpr c12
          have c12b1 : (((rdOf ByteArray.empty t101 x19_1).size : Int) != ((rdOf ByteArray.empty t101 0).size : Int)) = true := bne_iff_ne.mpr c12
          have c12b2 : ((rdOf ByteArray.empty t101 x19_1).size == (rdOf ByteArray.empty t101 0).size) = false := by first | simpa using c12 | (simp at c12 ⊢; omega)
          obtain rfl := Option.some.inj H
          have p106 : 0 ≤ (x19_1 : Int) := of_decide_eq_true (by first | (with_reducible assumption) | assumption)
          have q106 : x19_1 < (t101.length : Int) := of_decide_eq_true (by first | (with_reducible assumption) | assumption)
          obtain ⟨ad106, e106, hx106_0⟩ := Kd.at_string (Kd.R_reads' HO_17.out).2.2 x19_1 p106 q106
          obtain rfl : ad104 = ad106 := (by injection e106)
          replace p106 := eq_true p106
          replace q106 := eq_true q106
          have p107 : 0 ≤ (0 : Int) := (by omega)
          have q107 : 0 < (t101.length : Int) := of_decide_eq_true (by first | (with_reducible assumption) | assumption)
          obtain ⟨ad107, e107, hx107_0⟩ := Kd.at_string (Kd.R_reads' HO_3.out).2.2 0 p107 q107
          obtain rfl : ad104 = ad107 := (by injection e107)
          have qi107 : (0 < t101.length) = True := eq_true (by omega)
          (try rw [show ((0 : Int)).toNat = 0 from rfl] at hx107_0)
          (try rw [Addr.add_zero'] at hx107_0)
          replace p107 := eq_true p107
          replace q107 := eq_true q107
          go_wp2
          go_ret
          exact ⟨by first | rfl | (simp [Zao, Zan] <;> rfl) | (simp [*, Zao, Zan] <;> rfl), by repeat (first | (with_reducible first | exact HB.out | apply Zac | apply Zaa | apply Zab) | exact HB.out)⟩
        ·rw [if_neg c11] at H
         exact absurd H (by simp)
       ·rw [if_neg c10] at H
        exact absurd H (by simp)
      ·rw [if_neg c9] at H
       exact absurd H (by simp)
     ·rw [if_neg c8] at H
      have c8b0 : decide (x19_1 < (t101.length : Int)) = false := decide_eq_false c8
      clear c8
      have H' := Zad.mk H
      clear H
      go_wp2
      go_loopg [6] k1 (fun kq v6 w' => ∃ (x6_2 : Int), v6 = .int .i32 x6_2 ∧ Zad (Zba.l1 kq a0 x6_2 = some r) ∧ Zad (kq ≤ k1) ∧ Zad (Below w.heap.size w w'))
      case atStart => exact ⟨(97), (by first | rfl | (simp; done) | (simp [*]; done)), H', ⟨Nat.le_refl _⟩, ⟨by with_reducible repeat first | exact HB.out | apply Zac | apply Zaa | apply Zab⟩⟩
      case round =>
       clear H'
       obtain ⟨x6_2, rfl, HA, HK2, HB⟩ := hrel
       cases gk with
       | zero => exact absurd HA.out (by simp [Zba.l1])
       | succ k2 =>
        have H := HA.out
        clear HA
        simp only [Zba.l1] at H
        by_cases c17 : x6_2 ≤ 102
        ·rw [if_pos c17] at H
         have c17b0 : decide (x6_2 ≤ 102) = true := decide_eq_true c17
         clear c17
         replace H := Option.bind_eq_some_iff.mp H
         obtain ⟨t109, A180, H⟩ := H
         replace H : (if t109 > 1 then (some false) else (Zba.l1 k2 a0 (wrap32 (x6_2 + 1)))) = some r := H
         have A18 := Zad.mk A180
         clear A180
         by_cases c19 : t109 > 1
         ·rw [if_pos c19] at H
          have c19b0 : decide (1 < t109) = true := decide_eq_true c19
          clear c19
          obtain rfl := Option.some.inj H
          go_wp2_with (first | ((with_reducible refine Zau (f := 82) rfl ?_); refine Zbr (some 43) rfl rfl Tryz.func82 (by kernel_rfl) rfl #[.string a0, .string (Utf8.encode x6_2)] rfl (by (try simp only [List.map_toArray, List.map_cons, List.map_nil]); first | done | rfl | (simp only [List.length_drop, List.length_take]; rfl)) ?_; (with_reducible refine (Zb0.calls a0 (Utf8.encode x6_2) t109 _ A18.out).mono ?_); rintro e w20 ⟨rfl, hb⟩; refine ⟨_, rfl, ?_⟩; have n0_ := Zad.mk (Zal (by with_reducible repeat first | exact HB.out | apply Zac | apply Zaa | apply Zab) hb); clear HB; have HB := n0_))
          go_ret
          exact ⟨by first | rfl | (simp [Zao, Zan] <;> rfl) | (simp [*, Zao, Zan] <;> rfl), by repeat (first | (with_reducible first | exact HB.out | apply Zac | apply Zaa | apply Zab) | exact HB.out)⟩
         ·rw [if_neg c19] at H
          have c19b0 : decide (1 < t109) = false := decide_eq_false c19
          clear c19
          have H' := Zad.mk H
          clear H
          go_wp2_with (first | ((with_reducible refine Zau (f := 82) rfl ?_); refine Zbr (some 43) rfl rfl Tryz.func82 (by kernel_rfl) rfl #[.string a0, .string (Utf8.encode x6_2)] rfl (by (try simp only [List.map_toArray, List.map_cons, List.map_nil]); first | done | rfl | (simp only [List.length_drop, List.length_take]; rfl)) ?_; (with_reducible refine (Zb0.calls a0 (Utf8.encode x6_2) t109 _ A18.out).mono ?_); rintro e w21 ⟨rfl, hb⟩; refine ⟨_, rfl, ?_⟩; have n0_ := Zad.mk (Zal (by with_reducible repeat first | exact HB.out | apply Zac | apply Zaa | apply Zab) hb); clear HB; have HB := n0_))
          go_roundg k2
          case measure => have := HK1.out; have := HK2.out; omega
          case rel => exact ⟨(wrap32 (x6_2 + 1)), (by first | rfl | (simp; done) | (simp [*]; done)), H', ⟨by have := HK1.out; have := HK2.out; omega⟩, ⟨by with_reducible repeat first | exact HB.out | apply Zac | apply Zaa | apply Zab⟩⟩
        ·rw [if_neg c17] at H
         have c17b0 : decide (x6_2 ≤ 102) = false := decide_eq_false c17
         clear c17
         obtain rfl := Option.some.inj H
         go_wp2
         go_ret
         exact ⟨by first | rfl | (simp [Zao, Zan] <;> rfl) | (simp [*, Zao, Zan] <;> rfl), by repeat (first | (with_reducible first | exact HB.out | apply Zac | apply Zaa | apply Zab) | exact HB.out)⟩
  ·replace c5 := Bool.eq_false_iff.mpr c5
   subst c5
   have H1 : (some false) = some r := by rw [if_neg (show ¬ (false = true) by decide)] at H; exact H
   clear H
   have H := H1
   clear H1
   obtain rfl := Option.some.inj H
   go_enter Tryz.func68, Tryz.ntmps68
   go_wp2_with (first | ((with_reducible refine Zau (f := 104) rfl ?_); refine Zbr (some 8) rfl rfl Tryz.func104 (by kernel_rfl) rfl #[.string a0, .string (⟨#[47]⟩ : ByteArray)] rfl (by (try simp only [List.map_toArray, List.map_cons, List.map_nil]); first | done | rfl | (simp only [List.length_drop, List.length_take]; rfl)) ?_; (with_reducible refine (Zcr.calls k a0 (⟨#[47]⟩ : ByteArray) t101 _ A2.out).mono ?_); rintro e w22 ⟨v102, rfl, ho0, hb⟩; refine ⟨_, rfl, ?_⟩; have n0_ := Zad.mk (Kd.R_lower ho0 (Zak (by with_reducible repeat first | exact HB.out | apply Zac | apply Zaa | apply Zab))); have n1_ := Zad.mk (Zal (by with_reducible repeat first | exact HB.out | apply Zac | apply Zaa | apply Zab) hb); clear HB; have HO103 := n0_; have HB := n1_; obtain ⟨Ao23, co23, eo23⟩ := Kd.R_slice HO103.out; subst eo23; have p104 : 0 ≤ (0 : Int) := (by omega); have q104 : 0 < (t101.length : Int) := of_decide_eq_true (by first | (with_reducible assumption) | assumption); obtain ⟨ad104, e104, hx104_0⟩ := Kd.at_string (Kd.R_reads' HO103.out).2.2 0 p104 q104; cases e104; have qi104 : (0 < t101.length) = True := eq_true (by omega); (try rw [show ((0 : Int)).toNat = 0 from rfl] at hx104_0); (try rw [Addr.add_zero'] at hx104_0); replace p104 := eq_true p104; replace q104 := eq_true q104) | ((with_reducible refine Zau (f := 105) rfl ?_); refine Zbr (some 15) rfl rfl Tryz.func105 (by kernel_rfl) rfl #[.int .i64 ((rdOf ByteArray.empty t101 0).size : Int), .int .i64 (t101.length : Int)] rfl (by (try simp only [List.map_toArray, List.map_cons, List.map_nil]); first | done | rfl | (simp only [List.length_drop, List.length_take]; rfl)) ?_; (with_reducible refine (Zcz.calls ((rdOf ByteArray.empty t101 0).size : Int) (t101.length : Int) false _ A4.out).mono ?_); rintro e w' ⟨rfl, ⟨nd, rfl⟩⟩; refine ⟨_, rfl, ?_⟩))
   go_ret
   exact ⟨by first | rfl | (simp [Zao, Zan] <;> rfl) | (simp [*, Zao, Zan] <;> rfl), by repeat (first | (with_reducible first | exact HB.out | apply Zac | apply Zaa | apply Zab) | exact HB.out)⟩
 ·rw [if_neg c3] at H
  exact absurd H (by simp)
def Zc0.f (k : Nat) (a0 : ByteArray) : Option (Bool) := (Zba.f k a0).bind fun t101 => (if t101 = true then ((Zca.f a0 (⟨#[35, 46, 47]⟩ : ByteArray)).bind fun t102 => (some (t102.toList == ([] : List UInt8)))) else (some false))
set_option maxHeartbeats 8000000 in
set_option maxRecDepth 100000 in
theorem Zc0.calls (k : Nat) (a0 : ByteArray) (r : Bool) (w : World) (h : Zc0.f k a0 = some r) :
  Calls Tryz.prog 79 #[.string a0] w fun e w' => e = .returned (.bool r) ∧ Below w.heap.size w w' := by
 have HB := Zad.mk (Below.refl w.heap.size w)
 have H : ((Zba.f k a0).bind fun t101 => (if t101 = true then ((Zca.f a0 (⟨#[35, 46, 47]⟩ : ByteArray)).bind fun t102 => (some (t102.toList == ([] : List UInt8)))) else (some false))) = some r := h
 clear h
 replace H := Option.bind_eq_some_iff.mp H
 obtain ⟨t101, A20, H⟩ := H
 replace H : (if t101 = true then ((Zca.f a0 (⟨#[35, 46, 47]⟩ : ByteArray)).bind fun t102 => (some (t102.toList == ([] : List UInt8)))) else (some false)) = some r := H
 have A2 := Zad.mk A20
 clear A20
 by_cases c3 : t101 = true
 ·subst c3
  have H1 : ((Zca.f a0 (⟨#[35, 46, 47]⟩ : ByteArray)).bind fun t102 => (some (t102.toList == ([] : List UInt8)))) = some r := by rw [if_pos rfl] at H; exact H
  clear H
  have H := H1
  clear H1
  replace H := Option.bind_eq_some_iff.mp H
  obtain ⟨t102, A40, H⟩ := H
  replace H : (some (t102.toList == ([] : List UInt8))) = some r := H
  have A4 := Zad.mk A40
  clear A40
  obtain rfl := Option.some.inj H
  go_enter Tryz.func79, Tryz.ntmps79
  go_wp2_with (first | ((with_reducible refine Zau (f := 68) rfl ?_); refine Zbr (some 4) rfl rfl Tryz.func68 (by kernel_rfl) rfl #[.string a0] rfl (by (try simp only [List.map_toArray, List.map_cons, List.map_nil]); first | done | rfl | (simp only [List.length_drop, List.length_take]; rfl)) ?_; (with_reducible refine (Zba.calls k a0 true _ A2.out).mono ?_); rintro e w5 ⟨rfl, hb⟩; refine ⟨_, rfl, ?_⟩; have n0_ := Zad.mk (Zal (by with_reducible repeat first | exact HB.out | apply Zac | apply Zaa | apply Zab) hb); clear HB; have HB := n0_) | (go_at_call 106; (with_reducible refine (Zca.calls a0 (⟨#[35, 46, 47]⟩ : ByteArray) t102 _ A4.out).mono ?_); rintro e w6 ⟨rfl, hb⟩; have n0_ := Zad.mk (Zal (by with_reducible repeat first | exact HB.out | apply Zac | apply Zaa | apply Zab) hb); clear HB; have HB := n0_))
  go_ret
  exact ⟨by first | rfl | (simp [Zao, Zan] <;> rfl) | (simp [*, Zao, Zan] <;> rfl), by repeat (first | (with_reducible first | exact HB.out | apply Zac | apply Zaa | apply Zab) | exact HB.out)⟩
 ·replace c3 := Bool.eq_false_iff.mpr c3
  subst c3
  have H1 : (some false) = some r := by rw [if_neg (show ¬ (false = true) by decide)] at H; exact H
  clear H
  have H := H1
  clear H1
  obtain rfl := Option.some.inj H
  go_enter Tryz.func79, Tryz.ntmps79
  go_wp2_with (first | ((with_reducible refine Zau (f := 68) rfl ?_); refine Zbr (some 4) rfl rfl Tryz.func68 (by kernel_rfl) rfl #[.string a0] rfl (by (try simp only [List.map_toArray, List.map_cons, List.map_nil]); first | done | rfl | (simp only [List.length_drop, List.length_take]; rfl)) ?_; (with_reducible refine (Zba.calls k a0 false _ A2.out).mono ?_); rintro e w7 ⟨rfl, hb⟩; refine ⟨_, rfl, ?_⟩; have n0_ := Zad.mk (Zal (by with_reducible repeat first | exact HB.out | apply Zac | apply Zaa | apply Zab) hb); clear HB; have HB := n0_))
  go_ret
  exact ⟨by first | rfl | (simp [Zao, Zan] <;> rfl) | (simp [*, Zao, Zan] <;> rfl), by repeat (first | (with_reducible first | exact HB.out | apply Zac | apply Zaa | apply Zab) | exact HB.out)⟩
def Zdc.f (a0 : Int) : Option (Bool) := some (a0 != 35)
set_option maxHeartbeats 8000000 in
set_option maxRecDepth 100000 in
theorem Zdc.calls (a0 : Int) (r : Bool) (w : World) (h : Zdc.f a0 = some r) :
  Calls Tryz.prog 81 #[.int .u8 a0] w fun e w' => e = .returned (.bool r) ∧ Za8 w w' := by
 have H : (some (a0 != 35)) = some r := h
 clear h
 obtain rfl := Option.some.inj H
 go_enter Tryz.func81, Tryz.ntmps81
 go_wp2
 go_ret
 exact ⟨by first | rfl | (simp; done) | (simp [*]; done), by repeat (first | exact Za8.refl _ | apply Za8.step)⟩
def Zaq.l0 : Nat → List Int → List Int → Int → Int → Option (List Int)
 | 0, _, _, _, _ => none
 | k + 1, x5, x10, x11, x12 => if x12 < x11 then (if 0 ≤ x12 then (if x12 < (x10.length : Int) then ((Zdc.f (rd x10 x12)).bind fun t106 => (if t106 = true then (if x5.length < 17592186044416 then (Zaq.l0 k (x5 ++ [x12]) x10 x11 (wrap64 (x12 + 1))) else (none)) else (Zaq.l0 k x5 x10 x11 (wrap64 (x12 + 1))))) else (none)) else (none)) else (some x5)
def Zaq.f (k : Nat) (a0_0 : Int) (a0_1 : Int) (l0_2 : List Int) : Option (List Int) := Zaq.l0 k (([] : List Int)) l0_2 (l0_2.length : Int) 0
set_option maxHeartbeats 8000000 in
set_option maxRecDepth 100000 in
theorem Zaq.calls (k : Nat) (a0_0 : Int) (a0_1 : Int) (A0_2 : Option Addr) (c0_2 : Nat) (l0_2 : List Int) (r : List Int) (w : World) (hr0_2 : Kd.C (Kd.int .u8) w A0_2 l0_2.length l0_2) (hc0_2 : l0_2.length ≤ c0_2) (h : Zaq.f k a0_0 a0_1 l0_2 = some r) :
  Calls Tryz.prog 80 #[.agg #[.int .i64 a0_0, .int .i64 a0_1, .slice A0_2 l0_2.length c0_2], .func (.func 81) #[] #[]] w fun e w' => ∃ v0_ : Value, e = .returned (v0_) ∧ Kd.R (Kd.int .i64) 3 w' w.heap.size (fun _ => True) v0_ r ∧ Below w.heap.size w w' := by
 have hu93 := Tryz.underlying93
 have HR0_2 := Zad.mk hr0_2
 have HC0_2 := Zad.mk hc0_2
 clear hr0_2 hc0_2
 have HB := Zad.mk (Below.refl w.heap.size w)
 have H : (Zaq.l0 k (([] : List Int)) l0_2 (l0_2.length : Int) 0) = some r := h
 clear h
 obtain ⟨y102, hy102⟩ : ∃ y_ : List Int, y_ = (([] : List Int)) := ⟨_, rfl⟩
 replace H : (Zaq.l0 k y102 l0_2 (l0_2.length : Int) 0) = some r := by first | (rw [hy102]; with_reducible exact H) | (have H2_ := (Option.bind_some _ _).symm.trans H; rw [hy102]; with_reducible exact H2_) | (have H2_ := (Option.bind_some _ _).symm.trans H; with_reducible exact H2_) | with_reducible exact H | (rw [hy102]; exact H) | exact H
 have Ny102 := Zad.mk hy102
 clear hy102
 have H' := Zad.mk H
 clear H
 go_enter Tryz.func80, Tryz.ntmps80
 go_wp2_with (first | ((with_reducible refine Zay (N := 2) rfl ?_); refine Zaz ?hg (N := 2) ?hd (cs := #[.int .i64 a0_0, .int .i64 a0_1, .slice A0_2 l0_2.length c0_2]) (t := 93) ?hr ?_; (case hd => rfl); (case hg => rfl); (case hr => first | (go_simp; done) | (go_simp; rfl)); intro g01 hg w2 hbox hb; have n0_ := Zad.mk (Zal (by with_reducible repeat first | exact HB.out | apply Zac | apply Zaa | apply Zab) hb); have n1_ := Zad.mk (hbox); have n2_ := Zad.mk ((by rw [hg]; exact (Zak (by with_reducible repeat first | exact HB.out | apply Zac | apply Zaa | apply Zab)) : w.heap.size ≤ g01)); have n3_ := n2_; clear HB; have HB := n0_; have K01 := n1_; have W01 := n2_; have E01 := n3_; clear hb hbox hg) | ((with_reducible refine Zay (N := 8) rfl ?_); refine Kd.R_lit (Kd.int .i64) _ 3 ?hg (N := 8) ?hd (xs := ([] : List Int)) (inner := []) (ok := fun _ => True) (okp := fun _ => True) ?hr ?hp (fun _ hk => hk) trivial (Below.refl _ _) (Nat.le_refl _) (by simp) ?_; (case hd => rfl); (case hg => rfl); (case hr => first | (go_simp; done) | (go_simp; rfl)); (case hp => exact (Reps.none _ _)); intro v103 w3 ho4 hb hg_ hnew_; clear hg_ hnew_; (first | rw [← Ny102.out] at ho4 | (simp only [Int.reduceToNat] at ho4; rw [← Ny102.out] at ho4)); have n0_ := Zad.mk (Kd.R_lower ho4 (Zak (by with_reducible repeat first | exact HB.out | apply Zac | apply Zaa | apply Zab | refine Zah ?_ E01.out))); have n1_ := Zad.mk (Zav (g := g01) (o := .cells #[.int .i64 a0_0, .int .i64 a0_1, .slice A0_2 l0_2.length c0_2] 93 (0, 0)) (by (with_reducible repeat (first | refine Zag ?_ _ | refine Zaj ?_ | refine Zaf ?_ _)); exact K01.out) hb); have n2_ := Zad.mk (Zal (by with_reducible repeat first | exact HB.out | apply Zac | apply Zaa | apply Zab | refine Zah ?_ E01.out) hb); clear K01; clear HB; have HO104 := n0_; have K01 := n1_; have HB := n2_; clear hb ho4; have hcz5_0 : w3.cell? ⟨g01, 0, none⟩ = some (.int .i64 a0_0) := (Zai K01.out 0).trans rfl; have hcz5_1 : w3.cell? ⟨g01, 1, none⟩ = some (.int .i64 a0_1) := (Zai K01.out 1).trans rfl; have hcz5_2 : w3.cell? ⟨g01, 2, none⟩ = some (.slice A0_2 l0_2.length c0_2) := (Zai K01.out 2).trans rfl; have hfz5_0 := Zae K01.out 0; have hfz5_1 := Zae K01.out 1; have hfz5_2 := Zae K01.out 2))
 go_loopg [5, 12] k (fun kq v5 v12 w' => ∃ (x5_1 : List Int) (x12_1 : Int), v12 = .int .i64 x12_1 ∧ Zad (Zaq.l0 kq x5_1 l0_2 (l0_2.length : Int) x12_1 = some r) ∧ Zad (kq ≤ k) ∧ Zad (Kd.R (Kd.int .i64) 3 w' w.heap.size (fun _ => True) v5 x5_1) ∧ Zad (w'.heap[g01]? = some (.cells #[.int .i64 a0_0, .int .i64 a0_1, (.slice A0_2 l0_2.length c0_2)] 93 (0, 0))) ∧ Zad (Below w.heap.size w w'))
 case atStart => exact ⟨(y102), (0), (by first | rfl | (simp; done) | (simp [*]; done)), H', ⟨Nat.le_refl _⟩, ⟨by (with_reducible repeat (first | apply Kd.R_alloc | apply Kd.R_drewN | apply Kd.R_drew)); exact HO104.out⟩, ⟨by (with_reducible repeat (first | refine Zag ?_ _ | refine Zaj ?_ | refine Zaf ?_ _)); exact K01.out⟩, ⟨by with_reducible repeat first | exact HB.out | apply Zac | apply Zaa | apply Zab | refine Zah ?_ E01.out⟩⟩
 case round =>
  clear H'
  obtain ⟨x5_1, x12_1, rfl, HA, HK1, HO_5, K01, HB⟩ := hrel
  cases gk with
  | zero => exact absurd HA.out (by simp [Zaq.l0])
  | succ k1 =>
   have H := HA.out
   clear HA
   simp only [Zaq.l0] at H
   by_cases c6 : x12_1 < (l0_2.length : Int)
   ·rw [if_pos c6] at H
    have c6b0 : decide (x12_1 < (l0_2.length : Int)) = true := decide_eq_true c6
    clear c6
    by_cases c7 : 0 ≤ x12_1
    ·rw [if_pos c7] at H
     have c7b0 : decide (0 ≤ x12_1) = true := decide_eq_true c7
     clear c7
     by_cases c8 : x12_1 < (l0_2.length : Int)
     ·rw [if_pos c8] at H
      have c8b0 : decide (x12_1 < (l0_2.length : Int)) = true := decide_eq_true c8
      clear c8
      replace H := Option.bind_eq_some_iff.mp H
      obtain ⟨t106, A90, H⟩ := H
      replace H : (if t106 = true then (if x5_1.length < 17592186044416 then (Zaq.l0 k1 (x5_1 ++ [x12_1]) l0_2 (l0_2.length : Int) (wrap64 (x12_1 + 1))) else (none)) else (Zaq.l0 k1 x5_1 l0_2 (l0_2.length : Int) (wrap64 (x12_1 + 1)))) = some r := H
      have A9 := Zad.mk A90
      clear A90
      by_cases c10 : t106 = true
      ·subst c10
       have H1 : (if x5_1.length < 17592186044416 then (Zaq.l0 k1 (x5_1 ++ [x12_1]) l0_2 (l0_2.length : Int) (wrap64 (x12_1 + 1))) else (none)) = some r := by rw [if_pos rfl] at H; exact H
       clear H
       have H := H1
       clear H1
       by_cases c11 : x5_1.length < 17592186044416
       ·rw [if_pos c11] at H
        have LMc11 := Zad.mk c11
        clear c11
        obtain ⟨y107, hy107⟩ : ∃ y_ : List Int, y_ = (x5_1 ++ [x12_1]) := ⟨_, rfl⟩
        replace H : (Zaq.l0 k1 y107 l0_2 (l0_2.length : Int) (wrap64 (x12_1 + 1))) = some r := by first | (rw [hy107]; with_reducible exact H) | (have H2_ := (Option.bind_some _ _).symm.trans H; rw [hy107]; with_reducible exact H2_) | (have H2_ := (Option.bind_some _ _).symm.trans H; with_reducible exact H2_) | with_reducible exact H | (rw [hy107]; exact H) | exact H
        have Ny107 := Zad.mk hy107
        clear hy107
        have H' := Zad.mk H
        clear H
        have p105 : 0 ≤ (x12_1 : Int) := of_decide_eq_true (by first | (with_reducible assumption) | assumption)
        have q105 : x12_1 < (l0_2.length : Int) := of_decide_eq_true (by first | (with_reducible assumption) | assumption)
        obtain ⟨ad105, e105, hx105_0⟩ := Kd.at_int HR0_2.out x12_1 p105 q105
        cases e105
        (first | (replace hx105_0 := (HB.out.cell (World.block_lt_of_cell? w _ hx105_0)).trans hx105_0) | skip)
        replace p105 := eq_true p105
        replace q105 := eq_true q105
        go_wp2_with (first | ((with_reducible refine Zau (f := 81) rfl ?_); refine Zbr (some 19) rfl rfl Tryz.func81 (by kernel_rfl) rfl #[.int .u8 (rd l0_2 x12_1)] rfl (by (try simp only [List.map_toArray, List.map_cons, List.map_nil]); first | done | rfl | (simp only [List.length_drop, List.length_take]; rfl)) ?_; (with_reducible refine (Zdc.calls (rd l0_2 x12_1) true _ A9.out).mono ?_); rintro e w' ⟨rfl, ⟨nd, rfl⟩⟩; refine ⟨_, rfl, ?_⟩) | (go_at_call 81; refine (Zdc.calls (rd l0_2 x12_1) true _ A9.out).mono ?_; rintro e w' ⟨rfl, ⟨nd, rfl⟩⟩) | ((with_reducible refine Za9 (b := .append) (xs := #[.tmp 20, .tmp 22]) rfl ?_); at_builtin; refine Kd.R_append (Kd.int .i64) (w0 := w) w.heap.size rfl (.tmp 20) (.tmp 22) 31 3 (.int .i64 0) 8 rfl Tryz.underlying31 info3 rfl (by decide) (by omega) u5 x5_1 x12_1 [.int .i64 x12_1] (fun _ => True) (fun _ => False) rfl rfl ?aP (fun _ hk => hk.elim) ?aF ?aO ?aB ?aS ?aL ?_; (case aP => exact rfl); (case aB => exact (by with_reducible repeat first | exact HB.out | apply Zac | apply Zaa | apply Zab | refine Zah ?_ E01.out)); (case aF => exact (fun _ _ => trivial)); (case aO => exact (by (with_reducible repeat (first | apply Kd.R_alloc | apply Kd.R_drewN | apply Kd.R_drew)); exact HO_5.out)); (case aS => exact (Zak (by with_reducible repeat first | exact HB.out | apply Zac | apply Zaa | apply Zab | refine Zah ?_ E01.out))); (case aL => have := LMc11.out; omega); intro v108 w12 ho hb hg hat; rw [← Ny107.out] at ho; have n0_ := Zad.mk (Zbf (g := g01) (o := .cells #[.int .i64 a0_0, .int .i64 a0_1, .slice (some ad105) l0_2.length c0_2] 93 (0, 0)) (by (with_reducible repeat (first | refine Zag ?_ _ | refine Zaj ?_ | refine Zaf ?_ _)); exact K01.out) hg (Kd.R_ne HO_5.out K01.out (by decide))); have n1_ := Zad.mk (hb); have n2_ := Zad.mk (ho); clear K01; clear HB; clear HO_5; have K01 := n0_; have HB := n1_; have HO109 := n2_; clear ho hb hg hat))
        go_roundg k1
        case measure => have := HK1.out; omega
        case rel => exact ⟨(y107), (wrap64 (x12_1 + 1)), (by first | rfl | (simp; done) | (simp [*]; done)), H', ⟨by have := HK1.out; omega⟩, ⟨by (with_reducible repeat (first | apply Kd.R_alloc | apply Kd.R_drewN | apply Kd.R_drew)); exact HO109.out⟩, ⟨by (with_reducible repeat (first | refine Zag ?_ _ | refine Zaj ?_ | refine Zaf ?_ _)); exact K01.out⟩, ⟨by with_reducible repeat first | exact HB.out | apply Zac | apply Zaa | apply Zab | refine Zah ?_ E01.out⟩⟩
       ·rw [if_neg c11] at H
        exact absurd H (by simp)
      ·replace c10 := Bool.eq_false_iff.mpr c10
       subst c10
       have H1 : (Zaq.l0 k1 x5_1 l0_2 (l0_2.length : Int) (wrap64 (x12_1 + 1))) = some r := by rw [if_neg (show ¬ (false = true) by decide)] at H; exact H
       clear H
       have H := H1
       clear H1
       have H' := Zad.mk H
       clear H
       have p105 : 0 ≤ (x12_1 : Int) := of_decide_eq_true (by first | (with_reducible assumption) | assumption)
       have q105 : x12_1 < (l0_2.length : Int) := of_decide_eq_true (by first | (with_reducible assumption) | assumption)
       obtain ⟨ad105, e105, hx105_0⟩ := Kd.at_int HR0_2.out x12_1 p105 q105
       cases e105
       (first | (replace hx105_0 := (HB.out.cell (World.block_lt_of_cell? w _ hx105_0)).trans hx105_0) | skip)
       replace p105 := eq_true p105
       replace q105 := eq_true q105
       go_wp2_with (first | ((with_reducible refine Zau (f := 81) rfl ?_); refine Zbr (some 19) rfl rfl Tryz.func81 (by kernel_rfl) rfl #[.int .u8 (rd l0_2 x12_1)] rfl (by (try simp only [List.map_toArray, List.map_cons, List.map_nil]); first | done | rfl | (simp only [List.length_drop, List.length_take]; rfl)) ?_; (with_reducible refine (Zdc.calls (rd l0_2 x12_1) false _ A9.out).mono ?_); rintro e w' ⟨rfl, ⟨nd, rfl⟩⟩; refine ⟨_, rfl, ?_⟩) | (go_at_call 81; refine (Zdc.calls (rd l0_2 x12_1) false _ A9.out).mono ?_; rintro e w' ⟨rfl, ⟨nd, rfl⟩⟩))
       go_roundg k1
       case measure => have := HK1.out; omega
       case rel => exact ⟨(x5_1), (wrap64 (x12_1 + 1)), (by first | rfl | (simp; done) | (simp [*]; done)), H', ⟨by have := HK1.out; omega⟩, ⟨by (with_reducible repeat (first | apply Kd.R_alloc | apply Kd.R_drewN | apply Kd.R_drew)); exact HO_5.out⟩, ⟨by (with_reducible repeat (first | refine Zag ?_ _ | refine Zaj ?_ | refine Zaf ?_ _)); exact K01.out⟩, ⟨by with_reducible repeat first | exact HB.out | apply Zac | apply Zaa | apply Zab | refine Zah ?_ E01.out⟩⟩
     ·rw [if_neg c8] at H
      exact absurd H (by simp)
    ·rw [if_neg c7] at H
     exact absurd H (by simp)
   ·rw [if_neg c6] at H
    have c6b0 : decide (x12_1 < (l0_2.length : Int)) = false := decide_eq_false c6
    clear c6
    obtain rfl := Option.some.inj H
    go_wp2
    go_ret
    exact ⟨_, by first | rfl | (simp [Zao, Zan] <;> rfl) | (simp [*, Zao, Zan] <;> rfl), by (with_reducible repeat (first | apply Kd.R_alloc | apply Kd.R_drewN | apply Kd.R_drew)); exact HO_5.out, by repeat (first | (with_reducible first | exact HB.out | apply Zac | apply Zaa | apply Zab | refine Zah ?_ E01.out) | exact HB.out)⟩
def Zcs.f (k : Nat) (a0 : ByteArray) : Option (Int × Int × List Int) :=
 (Zcr.f k a0 (⟨#[47]⟩ : ByteArray)).bind fun rows => if 0 < rows.length then (strings_Join.f rows (⟨#[]⟩ : ByteArray)).bind fun s => some (((rdOf ByteArray.empty rows 0).size : Int), (rows.length : Int), Zc7 s) else none
theorem Zi9 {W W' : World} {b : Nat} (h : W'.heap[b]? = W.heap[b]?) (o : Nat) : W'.cell? ⟨b, o, none⟩ = W.cell? ⟨b, o, none⟩ := by
 simp only [World.cell?, h]
theorem read_old {w w1 w2 : World} {s : ByteArray} (hB : Below (w.alloc (.cells #[.int .i64 0, .int .i64 0, .slice none 0 0] 93)).heap.size (w.alloc (.cells #[.int .i64 0, .int .i64 0, .slice none 0 0] 93)) w1) (hb : Below w1.heap.size w1 w2) :
  (Lib.bytesWorld w2 5 s).cell? ⟨w.heap.size, 0, none⟩ = some (.int .i64 0) ∧ (Lib.bytesWorld w2 5 s).cell? ⟨w.heap.size, 1, none⟩ = some (.int .i64 0) ∧ (Lib.bytesWorld w2 5 s).cell? ⟨w.heap.size, 2, none⟩ = some (.slice none 0 0) ∧
  (Lib.bytesWorld w2 5 s).frozen? ⟨w.heap.size, 0, none⟩ = false ∧ (Lib.bytesWorld w2 5 s).frozen? ⟨w.heap.size, 1, none⟩ = false ∧ (Lib.bytesWorld w2 5 s).frozen? ⟨w.heap.size, 2, none⟩ = false := by
 have h1 : w.heap.size < w1.heap.size := by have := hB.size; simp at this; omega
 have h2 : w.heap.size < w2.heap.size := Nat.lt_of_lt_of_le h1 hb.size
 have e : (Lib.bytesWorld w2 5 s).heap[w.heap.size]? = (w.alloc (.cells #[.int .i64 0, .int .i64 0, .slice none 0 0] 93)).heap[w.heap.size]? := by
  rw [Lib.bytesWorld_at_old _ _ _ _ h2, hb.block _ h1, hB.block _ (by simp)]
 have e2 : (Lib.bytesWorld w2 5 s).heap[w.heap.size]? = some (.cells #[.int .i64 0, .int .i64 0, .slice none 0 0] 93 (0, 0)) := by
  rw [e]; simpa using heap_alloc_new w _
 simp [World.cell?, World.frozen?, e2]
theorem Zl1 {l : List ByteArray} {sep s : ByteArray} (hj : strings_Join.f l sep = some s) : s.size ≤ 140737488355328 := by
 unfold strings_Join.f at hj
 split at hj
 ·rename_i hl
  obtain rfl := Option.some.inj hj
  show (_ : List UInt8).toArray.size ≤ _
  rw [List.size_toArray]
  exact hl.2
 ·cases hj
def RowF (W : World) (g n : Nat) (xs : List Int) : Prop := xs.length = n ∧ ∃ cur lo hi, W.heap[g]? = some (.cells cur 5 (lo, hi)) ∧ n ≤ lo ∧ n ≤ cur.size ∧ ∀ (j : Nat) x, xs[j]? = some x → cur[j]? = some (.int .u8 x)
theorem RowF.cell {W : World} {g n : Nat} {xs : List Int} (h : RowF W g n xs) (j : Nat) (x : Int) (hx : xs[j]? = some x) : W.cell? ⟨g, j, none⟩ = some (.int .u8 x) := by
 obtain ⟨_, cur, lo, hi, hg, _, _, hc⟩ := h
 simp [World.cell?, hg, hc j x hx]
theorem RowF.frozen {W : World} {g n : Nat} {xs : List Int} (h : RowF W g n xs) (j : Nat) (hj : j < n) : W.frozen? ⟨g, j, none⟩ = false := by
 obtain ⟨_, cur, lo, hi, hg, hlo, _, _⟩ := h
 simp [World.frozen?, hg]; omega
theorem RowF.of_heap {W W' : World} {g n : Nat} {xs : List Int} (h : RowF W g n xs) (he : W'.heap[g]? = W.heap[g]?) : RowF W' g n xs := by
 obtain ⟨hl, cur, lo, hi, hg, r⟩ := h
 exact ⟨hl, cur, lo, hi, he.trans hg, r⟩
theorem RowF.put {W : World} {g n : Nat} {xs : List Int} (h : RowF W g n xs) (i : Nat) (hi : i < n) (x : Int) : RowF (W.setCell ⟨g, i, none⟩ (.int .u8 x)) g n (xs.set i x) := by
 obtain ⟨hl, cur, lo, hi', hg, hlo, hs, hc⟩ := h
 refine ⟨by simp [hl], cur.setIfInBounds i (.int .u8 x), lo, hi', ?_, hlo, by simpa using hs, ?_⟩
 ·simp only [World.setCell, Array.getElem?_modify, hg]
  simp
 ·intro j y hj
  rw [Array.getElem?_setIfInBounds]
  rw [List.getElem?_set] at hj
  by_cases e : i = j
  ·subst e
   rw [if_pos rfl] at hj ⊢
   rw [if_pos (by omega)] at hj ⊢
   simpa using hj
  ·rw [if_neg e] at hj ⊢
   exact hc j y hj
theorem RowF.C {W : World} {g n : Nat} {xs : List Int} (h : RowF W g n xs) (hm : n ≤ 140737488355328) : Kd.C (Kd.int .u8) W (some ⟨g, 0, none⟩) n xs := by
 refine Kd.C_of_reads (d := (0 : Int)) (h1 := fun _ => rfl) ⟨h.1, by omega, fun hn => ⟨_, rfl, fun j hj => ?_⟩⟩
 have ea : (Addr.add ⟨g, 0, none⟩ j) = ⟨g, j, none⟩ := by
  unfold Addr.add; split
  ·rename_i h; subst h; rfl
  ·simp
 have hj' : j < xs.length := by rw [h.1]; exact hj
 rw [ea, h.cell j _ (List.getElem?_eq_getElem hj')]
 simp [List.getD_eq_getElem?_getD, List.getElem?_eq_getElem hj']
theorem read_row {w w2 : World} {s : ByteArray} {x y z : Value} (h2 : w.heap.size < w2.heap.size) :
  RowF ((((Lib.bytesWorld w2 5 s).setCell ⟨w.heap.size, 0, none⟩ x).setCell ⟨w.heap.size, 1, none⟩ y).setCell ⟨w.heap.size, 2, none⟩ z) w2.heap.size (Zc7 s).length (Zc7 s) := by
 have hg : ((((Lib.bytesWorld w2 5 s).setCell ⟨w.heap.size, 0, none⟩ x).setCell ⟨w.heap.size, 1, none⟩ y).setCell ⟨w.heap.size, 2, none⟩ z).heap[w2.heap.size]? = (Lib.bytesWorld w2 5 s).heap[w2.heap.size]? := by
  rw [Below.heap_setCell _ _ _ _ (by show w2.heap.size ≠ w.heap.size; omega), Below.heap_setCell _ _ _ _ (by show w2.heap.size ≠ w.heap.size; omega), Below.heap_setCell _ _ _ _ (by show w2.heap.size ≠ w.heap.size; omega)]
 refine RowF.of_heap ?_ hg
 have hnew := Lib.bytesWorld_at_new w2 5 s
 have hsz : (Zc7 s).length ≤ (Lib.bytesCells w2 5 s).size := by
  rcases Nat.eq_zero_or_pos s.size with h0 | h0
  ·rw [Zcd, h0]; omega
  ·have hc := Lib.bytesWorld_cell w2 5 s (s.size - 1) (by omega)
   simp only [World.cell?, hnew] at hc
   have := (Array.getElem?_eq_some_iff.1 hc).1
   rw [Zcd]; omega
 refine ⟨rfl, _, _, _, hnew, hsz, hsz, fun j x hj => ?_⟩
 have hjl : j < s.size := by have := (List.getElem?_eq_some_iff.1 hj).1; rwa [Zcd] at this
 have hc := Lib.bytesWorld_cell w2 5 s j hjl
 simp only [World.cell?, hnew, Option.isSome_none, Bool.false_eq_true, if_false] at hc
 rw [hc]
 have : (Zc7 s)[j]? = some (((s.data.toList.getD j 0).toNat : Nat) : Int) := by simp [Zc7, List.getD_eq_getElem?_getD, hjl]
 rw [this] at hj
 rw [Option.some.inj hj]
theorem read_end {w w1 w2 : World} {s : ByteArray} {x y : Value} (hs : s.size ≤ 140737488355328) (hB : Below (w.alloc (.cells #[.int .i64 0, .int .i64 0, .slice none 0 0] 93)).heap.size (w.alloc (.cells #[.int .i64 0, .int .i64 0, .slice none 0 0] 93)) w1) (hb : Below w1.heap.size w1 w2) :
  ((((Lib.bytesWorld w2 5 s).setCell ⟨w.heap.size, 0, none⟩ x).setCell ⟨w.heap.size, 1, none⟩ y).setCell ⟨w.heap.size, 2, none⟩ (.slice (some ⟨w2.heap.size, 0, none⟩) s.size (grownCap w2 s.size 0 5))).heap[w.heap.size]? = some (.cells #[x, y, .slice (some ⟨w2.heap.size, 0, none⟩) s.size (grownCap w2 s.size 0 5)] 93 (0, 0)) ∧
  Kd.V (Kd.int .u8) 5 ((((Lib.bytesWorld w2 5 s).setCell ⟨w.heap.size, 0, none⟩ x).setCell ⟨w.heap.size, 1, none⟩ y).setCell ⟨w.heap.size, 2, none⟩ (.slice (some ⟨w2.heap.size, 0, none⟩) s.size (grownCap w2 s.size 0 5))) w.heap.size (fun k_ => w.heap.size ≤ k_) (.slice (some ⟨w2.heap.size, 0, none⟩) s.size (grownCap w2 s.size 0 5)) (Zc7 s) ∧
  Below w.heap.size w ((((Lib.bytesWorld w2 5 s).setCell ⟨w.heap.size, 0, none⟩ x).setCell ⟨w.heap.size, 1, none⟩ y).setCell ⟨w.heap.size, 2, none⟩ (.slice (some ⟨w2.heap.size, 0, none⟩) s.size (grownCap w2 s.size 0 5))) := by
 have h1 : w.heap.size < w1.heap.size := by have := hB.size; simp at this; omega
 have h2 : w.heap.size < w2.heap.size := Nat.lt_of_lt_of_le h1 hb.size
 have e2 : (Lib.bytesWorld w2 5 s).heap[w.heap.size]? = some (.cells #[.int .i64 0, .int .i64 0, .slice none 0 0] 93 (0, 0)) := by
  rw [Lib.bytesWorld_at_old _ _ _ _ h2, hb.block _ h1, hB.block _ (by simp)]; simpa using heap_alloc_new w _
 refine ⟨?_, ?_, ?_⟩
 ·refine Za1 (cs := #[x, y, .slice none 0 0]) ?_ 2 _ rfl
  refine Za1 (cs := #[x, .int .i64 0, .slice none 0 0]) ?_ 1 _ rfl
  exact Za1 (cs := #[.int .i64 0, .int .i64 0, .slice none 0 0]) e2 0 _ rfl
 ·refine ⟨some ⟨w2.heap.size, 0, none⟩, grownCap w2 s.size 0 5, by rw [Zcd], by rw [Zcd]; exact grownCap_ge _ _ _ _, ?_⟩
  intro W' hW
  refine Kd.C_of_reads (d := (0 : Int)) (h1 := fun _ => rfl) ⟨by rfl, by rw [Zcd]; omega, fun hn => ⟨_, rfl, fun j hj => ?_⟩⟩
  rw [Zcd] at hj
  have hg : ((((Lib.bytesWorld w2 5 s).setCell ⟨w.heap.size, 0, none⟩ x).setCell ⟨w.heap.size, 1, none⟩ y).setCell ⟨w.heap.size, 2, none⟩ (.slice (some ⟨w2.heap.size, 0, none⟩) s.size (grownCap w2 s.size 0 5))).heap[w2.heap.size]? = (Lib.bytesWorld w2 5 s).heap[w2.heap.size]? := by
   rw [Below.heap_setCell _ _ _ _ (by show w2.heap.size ≠ w.heap.size; omega), Below.heap_setCell _ _ _ _ (by show w2.heap.size ≠ w.heap.size; omega), Below.heap_setCell _ _ _ _ (by show w2.heap.size ≠ w.heap.size; omega)]
  have hW2 : W'.heap[w2.heap.size]? = (Lib.bytesWorld w2 5 s).heap[w2.heap.size]? := (hW _ (by omega) (by simp [World.setCell, Lib.bytesWorld_size])).trans hg
  have := (Zi9 hW2 j).trans (Lib.bytesWorld_cell w2 5 s j hj)
  have ea : (Addr.add ⟨w2.heap.size, 0, none⟩ j) = ⟨w2.heap.size, j, none⟩ := by
   unfold Addr.add; split
   ·rename_i h; subst h; rfl
   ·simp
  rw [ea, this]
  simp [Zc7, List.getD_eq_getElem?_getD, hj]
 ·have hw1 : Below w.heap.size w w1 := ((Below.refl _ _).alloc (Nat.le_refl _) _).trans (hB.mono (by simp))
  have hw2 : Below w.heap.size w w2 := hw1.trans (hb.mono hw1.size)
  have hw3 : Below w.heap.size w (Lib.bytesWorld w2 5 s) := hw2.trans ((Lib.bytesWorld_below w2 5 s).mono hw2.size)
  exact ((hw3.setCell (Nat.le_refl _) _).setCell (Nat.le_refl _) _).setCell (Nat.le_refl _) _
set_option maxHeartbeats 1000000 in
theorem Zcs.calls2 (k : Nat) (a0 : ByteArray) (r1 r2 : Int) (r3 : List Int) (w : World) (h : Zcs.f k a0 = some (r1, r2, r3)) :
  Calls Tryz.prog 69 #[.string a0] w fun e w' => ∃ g cap, e = .returned (.agg #[.int .i64 r1, .int .i64 r2, .slice (some ⟨g, 0, none⟩) r3.length cap]) ∧ r3.length ≤ cap ∧ r3.length ≤ 140737488355328 ∧ w.heap.size < g ∧ g < w'.heap.size ∧ RowF w' g r3.length r3 ∧ Below w.heap.size w w' := by
 unfold Zcs.f at h
 obtain ⟨rows, hs, h⟩ := Option.bind_eq_some_iff.mp h
 split at h
 ·rename_i hne
  obtain ⟨s, hj, h⟩ := Option.bind_eq_some_iff.mp h
  simp only [Option.some.injEq, Prod.mk.injEq] at h
  obtain ⟨rfl, rfl, rfl⟩ := h
  have hcv := fun (w : World) (s : ByteArray) => Lib.run_convert_string_bytes (P := Tryz.prog) w 9 50 5 s Tryz.underlying9 Tryz.underlying50 Tryz.underlying5
  go_enter Tryz.func69, Tryz.ntmps69
  go_wp2_with (go_at_call 104; refine (Zcr.calls k a0 _ rows _ hs).mono ?_; rintro e w1 ⟨v, rfl, hR, hB⟩)
  obtain ⟨A, c, rfl, hcl, hC⟩ := Kd.R_reads hR
  obtain ⟨_, hmax, hx⟩ := Zdt hC
  rcases hx with rfl | ⟨b, off, rfl, hb, hcell⟩
  ·simp at hne
  have h0 : w1.cell? ⟨b, off, none⟩ = some (.string (rdOf ByteArray.empty rows 0)) := by
   have := hcell 0 (rows[0]'hne) (List.getElem?_eq_getElem hne)
   simpa [rdOf, List.getD, List.getElem?_eq_getElem hne] using this
  have hlt : (0 : Int) < (rows.length : Int) := by omega
  clear hcell hne hmax hs hR h
  have hss : s.size ≤ 140737488355328 := Zl1 hj
  have HSS := Zad.mk hss
  clear hss
  have HBh := Zad.mk hB
  have hsz : w.heap.size < w1.heap.size := by have := hB.size; simp at this; omega
  clear hB
  go_region_with (first | (go_at_call 107; refine (strings_Join.calls (some ⟨b, off, none⟩) c rows _ s _ ?_ hcl hj).mono ?_; exact (Kd.C_below hC (by first | exact Below.refl _ _ | exact (Below.refl _ _).drew)); rintro e w2 ⟨rfl, hb2⟩; have kf := read_old HBh.out (s := s) (w2 := w2) (by first | exact hb2 | exact (Zab (Below.refl _ _)).trans hb2); have k0 := kf.1; have k1 := kf.2.1; have k2 := kf.2.2.1; have k3 := kf.2.2.2.1; have k4 := kf.2.2.2.2.1; have k5 := kf.2.2.2.2.2; clear kf; have kb2 := (Zal (show Below w1.heap.size w1 w2 by first | exact hb2 | exact (Zab (Below.refl _ _)).trans hb2) (Below.refl _ _)); have kb : w2.cell? ⟨b, off, none⟩ = some (.string (rdOf ByteArray.empty rows 0)) := (kb2.cell (p := ⟨b, off, none⟩) hb).trans h0; have kc : (Lib.bytesWorld w2 5 s).cell? ⟨b, off, none⟩ = some (.string (rdOf ByteArray.empty rows 0)) := (Lib.bytesWorld_old _ _ _ _ (Nat.lt_of_lt_of_le hb kb2.size)).trans kb; clear kb2))
  all_goals go_wp2
  all_goals
   have hb3 : Below w1.heap.size w1 w2 := by first | exact hb2 | exact (Zab (Below.refl _ _)).trans hb2
   obtain ⟨hE1, hE2, hE3⟩ := read_end (x := .int .i64 (rdOf ByteArray.empty rows 0).size) (y := .int .i64 rows.length) HSS.out HBh.out hb3
   refine bodyPost_ret (results_cell_row rfl _ _ w.heap.size 93 #[.int .i64 (rdOf ByteArray.empty rows 0).size, .int .i64 rows.length, .slice (some ⟨w2.heap.size, 0, none⟩) s.size (grownCap w2 s.size 0 5)] (0, 0) _ rfl hE1 Tryz.underlying93 rfl (by kernel_rfl)) rfl ?_
   have h1' : w.heap.size < w1.heap.size := by have := HBh.out.size; simp at this; omega
   have h2' : w.heap.size < w2.heap.size := Nat.lt_of_lt_of_le h1' hb3.size
   refine ⟨w2.heap.size, grownCap w2 s.size 0 5, by rw [Zcd], by rw [Zcd]; exact grownCap_ge _ _ _ _, by rw [Zcd]; exact HSS.out, h2', ?_, read_row h2', hE3⟩
   simp [World.setCell, Lib.bytesWorld_size]
 ·cases h
theorem Zcs.calls (k : Nat) (a0 : ByteArray) (r1 r2 : Int) (r3 : List Int) (w : World) (h : Zcs.f k a0 = some (r1, r2, r3)) :
  Calls Tryz.prog 69 #[.string a0] w fun e w' => ∃ v2_ : Value, e = .returned (.agg #[.int .i64 r1, .int .i64 r2, v2_]) ∧ Kd.V (Kd.int .u8) 5 w' w.heap.size (fun k_ => w.heap.size ≤ k_) v2_ r3 ∧ Below w.heap.size w w' :=
 (Zcs.calls2 k a0 r1 r2 r3 w h).mono fun e w' ⟨g, cap, he, hc, hm, hg, hl, hR, hB⟩ =>
  ⟨_, he, ⟨_, cap, rfl, hc, fun W' hW => (hR.of_heap (hW g (by omega) hl)).C hm⟩, hB⟩
def Zcy.f (k : Nat) (a0 : ByteArray) : Option (Bool) := (Zc0.f k a0).bind fun t101 => (if t101 = true then ((Zcs.f k a0).bind fun bt102 => ((Zaq.f k bt102.1 bt102.2.1 bt102.2.2).bind fun t107 => (some (decide ((t107.length : Int) ≤ 16))))) else (some false))
set_option maxHeartbeats 8000000 in
set_option maxRecDepth 100000 in
theorem Zcy.calls (k : Nat) (a0 : ByteArray) (r : Bool) (w : World) (h : Zcy.f k a0 = some r) :
  Calls Tryz.prog 41 #[.string a0] w fun e w' => e = .returned (.bool r) ∧ Below w.heap.size w w' := by
 have HB := Zad.mk (Below.refl w.heap.size w)
 have H : ((Zc0.f k a0).bind fun t101 => (if t101 = true then ((Zcs.f k a0).bind fun bt102 => ((Zaq.f k bt102.1 bt102.2.1 bt102.2.2).bind fun t107 => (some (decide ((t107.length : Int) ≤ 16))))) else (some false))) = some r := h
 clear h
 replace H := Option.bind_eq_some_iff.mp H
 obtain ⟨t101, A20, H⟩ := H
 replace H : (if t101 = true then ((Zcs.f k a0).bind fun bt102 => ((Zaq.f k bt102.1 bt102.2.1 bt102.2.2).bind fun t107 => (some (decide ((t107.length : Int) ≤ 16))))) else (some false)) = some r := H
 have A2 := Zad.mk A20
 clear A20
 by_cases c3 : t101 = true
 ·subst c3
  have H1 : ((Zcs.f k a0).bind fun bt102 => ((Zaq.f k bt102.1 bt102.2.1 bt102.2.2).bind fun t107 => (some (decide ((t107.length : Int) ≤ 16))))) = some r := by rw [if_pos rfl] at H; exact H
  clear H
  have H := H1
  clear H1
  replace H := Option.bind_eq_some_iff.mp H
  obtain ⟨⟨t102, t103, t104⟩, A40, H⟩ := H
  replace H : ((Zaq.f k t102 t103 t104).bind fun t107 => (some (decide ((t107.length : Int) ≤ 16)))) = some r := H
  have A4 := Zad.mk A40
  clear A40
  replace H := Option.bind_eq_some_iff.mp H
  obtain ⟨t107, A50, H⟩ := H
  replace H : (some (decide ((t107.length : Int) ≤ 16))) = some r := H
  have A5 := Zad.mk A50
  clear A50
  obtain rfl := Option.some.inj H
  go_enter Tryz.func41, Tryz.ntmps41
  go_wp2_with (first | ((with_reducible refine Zau (f := 79) rfl ?_); refine Zbr (some 4) rfl rfl Tryz.func79 (by kernel_rfl) rfl #[.string a0] rfl (by (try simp only [List.map_toArray, List.map_cons, List.map_nil]); first | done | rfl | (simp only [List.length_drop, List.length_take]; rfl)) ?_; (with_reducible refine (Zc0.calls k a0 true _ A2.out).mono ?_); rintro e w6 ⟨rfl, hb⟩; refine ⟨_, rfl, ?_⟩; have n0_ := Zad.mk (Zal (by with_reducible repeat first | exact HB.out | apply Zac | apply Zaa | apply Zab) hb); clear HB; have HB := n0_) | (go_at_call 69; (with_reducible refine (Zcs.calls k a0 t102 t103 t104 _ A4.out).mono ?_); rintro e w7 ⟨v105, rfl, ho0, hb⟩; have n0_ := Zad.mk (Kd.V_lower (Kd.V_mono (ok' := fun k_ => True) ho0 (fun k_ hk_ => trivial)) (Zak (by with_reducible repeat first | exact HB.out | apply Zac | apply Zaa | apply Zab))); have n1_ := Zad.mk (Zal (by with_reducible repeat first | exact HB.out | apply Zac | apply Zaa | apply Zab) hb); clear HB; have HO106 := n0_; have HB := n1_; obtain ⟨Ao8, co8, eo8⟩ := Kd.V_slice HO106.out; subst eo8) | (go_at_call 80; (with_reducible refine (Zaq.calls k t102 t103 _ _ t104 t107 _ ?side1 ?side2 A5.out).mono ?_); (case side1 => repeat (first | exact (Kd.V_reads' HO106.out).2.2 | (with_reducible refine Kd.C_alloc ?_ _) | (with_reducible refine Kd.C_drewN ?_ _) | (with_reducible refine Kd.C_drew ?_))); (case side2 => exact (Kd.V_reads' HO106.out).2.1); rintro e w9 ⟨v108, rfl, ho0, hb⟩; have n0_ := Zad.mk (Kd.V_elder' (by (with_reducible repeat (first | apply Kd.V_alloc | apply Kd.V_drewN | apply Kd.V_drew)); exact HO106.out) (Kd.R_base ho0) hb); have n1_ := Zad.mk (Kd.R_lower ho0 (Zak (by with_reducible repeat first | exact HB.out | apply Zac | apply Zaa | apply Zab))); have n2_ := Zad.mk (Zal (by with_reducible repeat first | exact HB.out | apply Zac | apply Zaa | apply Zab) hb); clear HO106; clear HB; have HO106 := n0_; have HO109 := n1_; have HB := n2_; obtain ⟨Ao10, co10, eo10⟩ := Kd.R_slice HO109.out; subst eo10))
  go_ret
  exact ⟨by first | rfl | (simp [Zao, Zan] <;> rfl) | (simp [*, Zao, Zan] <;> rfl), by repeat (first | (with_reducible first | exact HB.out | apply Zac | apply Zaa | apply Zab) | exact HB.out)⟩
 ·replace c3 := Bool.eq_false_iff.mpr c3
  subst c3
  have H1 : (some false) = some r := by rw [if_neg (show ¬ (false = true) by decide)] at H; exact H
  clear H
  have H := H1
  clear H1
  obtain rfl := Option.some.inj H
  go_enter Tryz.func41, Tryz.ntmps41
  go_wp2_with (first | ((with_reducible refine Zau (f := 79) rfl ?_); refine Zbr (some 4) rfl rfl Tryz.func79 (by kernel_rfl) rfl #[.string a0] rfl (by (try simp only [List.map_toArray, List.map_cons, List.map_nil]); first | done | rfl | (simp only [List.length_drop, List.length_take]; rfl)) ?_; (with_reducible refine (Zc0.calls k a0 false _ A2.out).mono ?_); rintro e w11 ⟨rfl, hb⟩; refine ⟨_, rfl, ?_⟩; have n0_ := Zad.mk (Zal (by with_reducible repeat first | exact HB.out | apply Zac | apply Zaa | apply Zab) hb); clear HB; have HB := n0_))
  go_ret
  exact ⟨by first | rfl | (simp [Zao, Zan] <;> rfl) | (simp [*, Zao, Zan] <;> rfl), by repeat (first | (with_reducible first | exact HB.out | apply Zac | apply Zaa | apply Zab) | exact HB.out)⟩
def Zds.f (a0 : ByteArray) : Option (Bool) := if (a0.size : Int) ≤ 40 then ((Zca.f a0 (⟨#[117, 114, 100, 108]⟩ : ByteArray)).bind fun t101 => (some (t101.toList == ([] : List UInt8)))) else (some false)
set_option maxHeartbeats 8000000 in
set_option maxRecDepth 100000 in
theorem Zds.calls (a0 : ByteArray) (r : Bool) (w : World) (h : Zds.f a0 = some r) :
  Calls Tryz.prog 83 #[.string a0] w fun e w' => e = .returned (.bool r) ∧ Below w.heap.size w w' := by
 have HB := Zad.mk (Below.refl w.heap.size w)
 have H : (if (a0.size : Int) ≤ 40 then ((Zca.f a0 (⟨#[117, 114, 100, 108]⟩ : ByteArray)).bind fun t101 => (some (t101.toList == ([] : List UInt8)))) else (some false)) = some r := h
 clear h
 by_cases c2 : (a0.size : Int) ≤ 40
 ·rw [if_pos c2] at H
  have c2b0 : decide ((a0.size : Int) ≤ 40) = true := decide_eq_true c2
  have c2b1 : decide (a0.size ≤ 40) = true := decide_eq_true (by omega)
  clear c2
  replace H := Option.bind_eq_some_iff.mp H
  obtain ⟨t101, A30, H⟩ := H
  replace H : (some (t101.toList == ([] : List UInt8))) = some r := H
  have A3 := Zad.mk A30
  clear A30
  obtain rfl := Option.some.inj H
  go_enter Tryz.func83, Tryz.ntmps83
  go_wp2_with (first | (go_at_call 106; (with_reducible refine (Zca.calls a0 (⟨#[117, 114, 100, 108]⟩ : ByteArray) t101 _ A3.out).mono ?_); rintro e w4 ⟨rfl, hb⟩; have n0_ := Zad.mk (Zal (by with_reducible repeat first | exact HB.out | apply Zac | apply Zaa | apply Zab) hb); clear HB; have HB := n0_))
  go_ret
  exact ⟨by first | rfl | (simp [Zao, Zan] <;> rfl) | (simp [*, Zao, Zan] <;> rfl), by repeat (first | (with_reducible first | exact HB.out | apply Zac | apply Zaa | apply Zab) | exact HB.out)⟩
 ·rw [if_neg c2] at H
  have c2b0 : decide ((a0.size : Int) ≤ 40) = false := decide_eq_false c2
  have c2b1 : decide (a0.size ≤ 40) = false := decide_eq_false (by omega)
  clear c2
  obtain rfl := Option.some.inj H
  go_enter Tryz.func83, Tryz.ntmps83
  go_wp2
  go_ret
  exact ⟨by first | rfl | (simp [Zao, Zan] <;> rfl) | (simp [*, Zao, Zan] <;> rfl), by repeat (first | (with_reducible first | exact HB.out | apply Zac | apply Zaa | apply Zab) | exact HB.out)⟩
def Zbw.l0 : Nat → ByteArray → Int → Int → Option (Bool)
 | 0, _, _, _ => none
 | k + 1, x0, x5, x6 => if x6 < x5 then (if 0 ≤ x6 then (if x6 ≤ (wrap64 (x6 + 1)) then (if (wrap64 (x6 + 1)) ≤ (x0.size : Int) then ((Zb0.f x0 (x0.extract (x6 : Int).toNat ((wrap64 (x6 + 1)) : Int).toNat)).bind fun t101 => (if t101 > 1 then (some false) else (Zbw.l0 k x0 x5 (wrap64 (x6 + 1))))) else (none)) else (none)) else (none)) else ((Zds.f x0).bind fun t102 => (some t102))
def Zbw.f (k : Nat) (a0 : ByteArray) : Option (Bool) := Zbw.l0 k a0 (a0.size : Int) 0
set_option maxHeartbeats 8000000 in
set_option maxRecDepth 100000 in
theorem Zbw.calls (k : Nat) (a0 : ByteArray) (r : Bool) (w : World) (h : Zbw.f k a0 = some r) :
  Calls Tryz.prog 42 #[.string a0] w fun e w' => e = .returned (.bool r) ∧ Below w.heap.size w w' := by
 have HB := Zad.mk (Below.refl w.heap.size w)
 have H : (Zbw.l0 k a0 (a0.size : Int) 0) = some r := h
 clear h
 have H' := Zad.mk H
 clear H
 go_enter Tryz.func42, Tryz.ntmps42
 go_wp2
 go_loopg [6] k (fun kq v6 w' => ∃ (x6_1 : Int), v6 = .int .i64 x6_1 ∧ Zad (Zbw.l0 kq a0 (a0.size : Int) x6_1 = some r) ∧ Zad (kq ≤ k) ∧ Zad (Below w.heap.size w w'))
 case atStart => exact ⟨(0), (by first | rfl | (simp; done) | (simp [*]; done)), H', ⟨Nat.le_refl _⟩, ⟨by with_reducible repeat first | exact HB.out | apply Zac | apply Zaa | apply Zab⟩⟩
 case round =>
  clear H'
  obtain ⟨x6_1, rfl, HA, HK1, HB⟩ := hrel
  cases gk with
  | zero => exact absurd HA.out (by simp [Zbw.l0])
  | succ k1 =>
   have H := HA.out
   clear HA
   simp only [Zbw.l0] at H
   by_cases c2 : x6_1 < (a0.size : Int)
   ·rw [if_pos c2] at H
    have c2b0 : decide (x6_1 < (a0.size : Int)) = true := decide_eq_true c2
    clear c2
    by_cases c3 : 0 ≤ x6_1
    ·rw [if_pos c3] at H
     have c3b0 := eq_true c3
     have c3b1 : decide (0 ≤ x6_1) = true := decide_eq_true c3
     clear c3
     by_cases c4 : x6_1 ≤ (wrap64 (x6_1 + 1))
     ·rw [if_pos c4] at H
      have c4b0 := eq_true c4
      have c4b1 : decide (x6_1 ≤ (wrap64 (x6_1 + 1))) = true := decide_eq_true c4
      by_cases c5 : (wrap64 (x6_1 + 1)) ≤ (a0.size : Int)
      ·rw [if_pos c5] at H
       have c5b0 := eq_true c5
       have c5b1 : decide ((wrap64 (x6_1 + 1)) ≤ (a0.size : Int)) = true := decide_eq_true c5
       replace H := Option.bind_eq_some_iff.mp H
       obtain ⟨t101, A60, H⟩ := H
       replace H : (if t101 > 1 then (some false) else (Zbw.l0 k1 a0 (a0.size : Int) (wrap64 (x6_1 + 1)))) = some r := H
       have A6 := Zad.mk A60
       clear A60
       by_cases c7 : t101 > 1
       ·rw [if_pos c7] at H
        have c7b0 : decide (1 < t101) = true := decide_eq_true c7
        clear c7
        obtain rfl := Option.some.inj H
        go_wp2_with (first | ((with_reducible refine Zau (f := 82) rfl ?_); refine Zbr (some 15) rfl rfl Tryz.func82 (by kernel_rfl) rfl #[.string a0, .string (a0.extract (x6_1 : Int).toNat ((wrap64 (x6_1 + 1)) : Int).toNat)] rfl (by (try simp only [List.map_toArray, List.map_cons, List.map_nil]); first | done | rfl | (simp only [List.length_drop, List.length_take]; rfl)) ?_; (with_reducible refine (Zb0.calls a0 (a0.extract (x6_1 : Int).toNat ((wrap64 (x6_1 + 1)) : Int).toNat) t101 _ A6.out).mono ?_); rintro e w8 ⟨rfl, hb⟩; refine ⟨_, rfl, ?_⟩; have n0_ := Zad.mk (Zal (by with_reducible repeat first | exact HB.out | apply Zac | apply Zaa | apply Zab) hb); clear HB; have HB := n0_))
        go_ret
        exact ⟨by first | rfl | (simp [Zao, Zan] <;> rfl) | (simp [*, Zao, Zan] <;> rfl), by repeat (first | (with_reducible first | exact HB.out | apply Zac | apply Zaa | apply Zab) | exact HB.out)⟩
       ·rw [if_neg c7] at H
        have c7b0 : decide (1 < t101) = false := decide_eq_false c7
        clear c7
        have H' := Zad.mk H
        clear H
        go_wp2_with (first | ((with_reducible refine Zau (f := 82) rfl ?_); refine Zbr (some 15) rfl rfl Tryz.func82 (by kernel_rfl) rfl #[.string a0, .string (a0.extract (x6_1 : Int).toNat ((wrap64 (x6_1 + 1)) : Int).toNat)] rfl (by (try simp only [List.map_toArray, List.map_cons, List.map_nil]); first | done | rfl | (simp only [List.length_drop, List.length_take]; rfl)) ?_; (with_reducible refine (Zb0.calls a0 (a0.extract (x6_1 : Int).toNat ((wrap64 (x6_1 + 1)) : Int).toNat) t101 _ A6.out).mono ?_); rintro e w9 ⟨rfl, hb⟩; refine ⟨_, rfl, ?_⟩; have n0_ := Zad.mk (Zal (by with_reducible repeat first | exact HB.out | apply Zac | apply Zaa | apply Zab) hb); clear HB; have HB := n0_))
        go_roundg k1
        case measure => have := HK1.out; omega
        case rel => exact ⟨(wrap64 (x6_1 + 1)), (by first | rfl | (simp; done) | (simp [*]; done)), H', ⟨by have := HK1.out; omega⟩, ⟨by with_reducible repeat first | exact HB.out | apply Zac | apply Zaa | apply Zab⟩⟩
      ·rw [if_neg c5] at H
       exact absurd H (by simp)
     ·rw [if_neg c4] at H
      exact absurd H (by simp)
    ·rw [if_neg c3] at H
     exact absurd H (by simp)
   ·rw [if_neg c2] at H
    have c2b0 : decide (x6_1 < (a0.size : Int)) = false := decide_eq_false c2
    clear c2
    replace H := Option.bind_eq_some_iff.mp H
    obtain ⟨t102, A100, H⟩ := H
    replace H : (some t102) = some r := H
    have A10 := Zad.mk A100
    clear A100
    obtain rfl := Option.some.inj H
    go_wp2_with (first | ((with_reducible refine Zau (f := 83) rfl ?_); refine Zbr (some 19) rfl rfl Tryz.func83 (by kernel_rfl) rfl #[.string a0] rfl (by (try simp only [List.map_toArray, List.map_cons, List.map_nil]); first | done | rfl | (simp only [List.length_drop, List.length_take]; rfl)) ?_; (with_reducible refine (Zds.calls a0 t102 _ A10.out).mono ?_); rintro e w11 ⟨rfl, hb⟩; refine ⟨_, rfl, ?_⟩; have n0_ := Zad.mk (Zal (by with_reducible repeat first | exact HB.out | apply Zac | apply Zaa | apply Zab) hb); clear HB; have HB := n0_))
    go_ret
    exact ⟨by first | rfl | (simp [Zao, Zan] <;> rfl) | (simp [*, Zao, Zan] <;> rfl), by repeat (first | (with_reducible first | exact HB.out | apply Zac | apply Zaa | apply Zab) | exact HB.out)⟩
end Go.Proofs.YtjohcjkidoalkaaGreatDoor.PA
namespace Go.Proofs
open Go.Shelf
def Tryz.lays114_ren : Go.Shelf.Ren := ⟨fun | 114 => 200 | n => n, fun | 28 => 31 | 3 => 3 | 4 => 4 | 9 => 9 | 20 => 20 | 0 => 0 | n => n, fun | n => n⟩
theorem Tryz.lays114 : Go.Proofs.Lays.n114 Tryz.prog Tryz.lays114_ren := {
 mixed := by kernel_rfl
 f114 := Tryz.func200.trans (congrArg some (by kernel_rfl))
 t0 := Tryz.underlying0
 a0 := Tryz.isAgg0
 z0 := Tryz.sizeOf0
 v0 := Tryz.zeroValue0
 t3 := Tryz.underlying3
 a3 := Tryz.isAgg3
 z3 := Tryz.sizeOf3
 v3 := Tryz.zeroValue3
 t4 := Tryz.underlying4
 a4 := Tryz.isAgg4
 z4 := Tryz.sizeOf4
 v4 := Tryz.zeroValue4
 t9 := Tryz.underlying9
 a9 := Tryz.isAgg9
 z9 := Tryz.sizeOf9
 v9 := Tryz.zeroValue9
 t20 := Tryz.underlying20
 a20 := Tryz.isAgg20
 z20 := Tryz.sizeOf20
 v20 := Tryz.zeroValue20
 t28 := Tryz.underlying31
 a28 := Tryz.isAgg31
 z28 := Tryz.sizeOf31
 v28 := Tryz.zeroValue31 }
def Tryz.laysEqualB_ren : Go.Shelf.Ren := ⟨fun | 33 => 127 | n => n, fun | 22 => 50 | 23 => 5 | 4 => 4 | 3 => 3 | 0 => 0 | n => n, fun | n => n⟩
theorem Tryz.laysEqualB : Go.Proofs.SlLaysE.n33 Tryz.prog Tryz.laysEqualB_ren := {
 mixed := by kernel_rfl
 f33 := ⟨Tryz.f127.name, by decide, Tryz.func127.trans (congrArg some (by kernel_rfl))⟩
 t0 := Tryz.underlying0
 a0 := Tryz.isAgg0
 z0 := Tryz.sizeOf0
 v0 := Tryz.zeroValue0
 t3 := Tryz.underlying3
 a3 := Tryz.isAgg3
 z3 := Tryz.sizeOf3
 v3 := Tryz.zeroValue3
 t4 := Tryz.underlying4
 a4 := Tryz.isAgg4
 z4 := Tryz.sizeOf4
 v4 := Tryz.zeroValue4
 t22 := Tryz.underlying50
 a22 := Tryz.isAgg50
 z22 := Tryz.sizeOf50
 v22 := Tryz.zeroValue50
 a23 := Tryz.isAgg5
 z23 := Tryz.sizeOf5 }
def Tryz.laysCloneB_ren : Go.Shelf.Ren := ⟨fun | 41 => 215 | n => n, fun | 22 => 50 | 23 => 5 | 4 => 4 | n => n, fun | n => n⟩
theorem Tryz.laysCloneB : Go.Proofs.SlLaysE0.n41 Tryz.prog Tryz.laysCloneB_ren := {
 mixed := by kernel_rfl
 f41 := ⟨Tryz.f215.name, by decide, Tryz.func215.trans (congrArg some (by kernel_rfl))⟩
 t4 := Tryz.underlying4
 a4 := Tryz.isAgg4
 z4 := Tryz.sizeOf4
 v4 := Tryz.zeroValue4
 t22 := Tryz.underlying50
 a22 := Tryz.isAgg50
 z22 := Tryz.sizeOf50
 v22 := Tryz.zeroValue50 }
def Tryz.laysSortS_ren : Go.Shelf.Ren := ⟨fun | 6 => 37 | 8 => 73 | 9 => 72 | 19 => 120 | 20 => 121 | 21 => 111 | 22 => 112 | 23 => 113 | 24 => 114 | 25 => 115 | 26 => 116 | 27 => 117 | 28 => 118 | 29 => 119 | 36 => 171 | 31 => 172 | 32 => 173 | 37 => 174 | 38 => 175 | 39 => 176 | 41 => 201 | n => n, fun | 27 => 22 | 29 => 9 | 3 => 3 | 32 => 99 | 26 => 22 | 0 => 0 | 44 => 135 | 46 => 137 | 4 => 4 | 36 => 129 | 35 => 128 | 41 => 28 | 5 => 5 | 9 => 9 | 53 => 175 | 57 => 179 | 63 => 195 | 64 => 196 | n => n, fun | n => n⟩
theorem Tryz.laysSortS : Go.Proofs.SlLaysM.n6 Tryz.prog Tryz.laysSortS_ren := {
 mixed := by kernel_rfl
 f6 := ⟨Tryz.f37.name, by decide, Tryz.func37.trans (congrArg some (by kernel_rfl))⟩
 f8 := Tryz.func73.trans (congrArg some (by kernel_rfl))
 f9 := ⟨Tryz.f72.name, by decide, Tryz.func72.trans (congrArg some (by kernel_rfl))⟩
 f19 := Tryz.func120.trans (congrArg some (by kernel_rfl))
 f20 := Tryz.func121.trans (congrArg some (by kernel_rfl))
 f21 := ⟨Tryz.f111.name, by decide, Tryz.func111.trans (congrArg some (by kernel_rfl))⟩
 f22 := ⟨Tryz.f112.name, by decide, Tryz.func112.trans (congrArg some (by kernel_rfl))⟩
 f23 := ⟨Tryz.f113.name, by decide, Tryz.func113.trans (congrArg some (by kernel_rfl))⟩
 f24 := ⟨Tryz.f114.name, by decide, Tryz.func114.trans (congrArg some (by kernel_rfl))⟩
 f25 := ⟨Tryz.f115.name, by decide, Tryz.func115.trans (congrArg some (by kernel_rfl))⟩
 f26 := ⟨Tryz.f116.name, by decide, Tryz.func116.trans (congrArg some (by kernel_rfl))⟩
 f27 := ⟨Tryz.f117.name, by decide, Tryz.func117.trans (congrArg some (by kernel_rfl))⟩
 f28 := ⟨Tryz.f118.name, by decide, Tryz.func118.trans (congrArg some (by kernel_rfl))⟩
 f29 := ⟨Tryz.f119.name, by decide, Tryz.func119.trans (congrArg some (by kernel_rfl))⟩
 f31 := Tryz.func172.trans (congrArg some (by kernel_rfl))
 f32 := Tryz.func173.trans (congrArg some (by kernel_rfl))
 f36 := ⟨Tryz.f171.name, by decide, Tryz.func171.trans (congrArg some (by kernel_rfl))⟩
 f37 := ⟨Tryz.f174.name, by decide, Tryz.func174.trans (congrArg some (by kernel_rfl))⟩
 f38 := ⟨Tryz.f175.name, by decide, Tryz.func175.trans (congrArg some (by kernel_rfl))⟩
 f39 := ⟨Tryz.f176.name, by decide, Tryz.func176.trans (congrArg some (by kernel_rfl))⟩
 f41 := ⟨Tryz.f201.name, by decide, Tryz.func201.trans (congrArg some (by kernel_rfl))⟩
 t0 := Tryz.underlying0
 a0 := Tryz.isAgg0
 z0 := Tryz.sizeOf0
 v0 := Tryz.zeroValue0
 t3 := Tryz.underlying3
 a3 := Tryz.isAgg3
 z3 := Tryz.sizeOf3
 v3 := Tryz.zeroValue3
 t4 := Tryz.underlying4
 a4 := Tryz.isAgg4
 z4 := Tryz.sizeOf4
 v4 := Tryz.zeroValue4
 t5 := Tryz.underlying5
 a5 := Tryz.isAgg5
 z5 := Tryz.sizeOf5
 v5 := Tryz.zeroValue5
 t9 := Tryz.underlying9
 a9 := Tryz.isAgg9
 z9 := Tryz.sizeOf9
 v9 := Tryz.zeroValue9
 t26 := Tryz.underlying22
 a26 := Tryz.isAgg22
 z26 := Tryz.sizeOf22
 v26 := Tryz.zeroValue22
 t27 := Tryz.underlying22
 a27 := Tryz.isAgg22
 z27 := Tryz.sizeOf22
 v27 := Tryz.zeroValue22
 t29 := Tryz.underlying9
 a29 := Tryz.isAgg9
 z29 := Tryz.sizeOf9
 v29 := Tryz.zeroValue9
 t32 := Tryz.underlying99
 a32 := Tryz.isAgg99
 z32 := Tryz.sizeOf99
 v32 := Tryz.zeroValue99
 t35 := Tryz.underlying128
 a35 := Tryz.isAgg128
 z35 := Tryz.sizeOf128
 v35 := Tryz.zeroValue128
 t36 := Tryz.underlying129
 a36 := Tryz.isAgg129
 z36 := Tryz.sizeOf129
 v36 := Tryz.zeroValue129
 t41 := Tryz.underlying28
 a41 := Tryz.isAgg28
 z41 := Tryz.sizeOf28
 v41 := Tryz.zeroValue28
 t44 := Tryz.underlying135
 a44 := Tryz.isAgg135
 z44 := Tryz.sizeOf135
 v44 := Tryz.zeroValue135
 t46 := Tryz.underlying137
 a46 := Tryz.isAgg137
 z46 := Tryz.sizeOf137
 v46 := Tryz.zeroValue137
 t53 := Tryz.underlying175
 a53 := Tryz.isAgg175
 z53 := Tryz.sizeOf175
 v53 := Tryz.zeroValue175
 t57 := Tryz.underlying179
 a57 := Tryz.isAgg179
 z57 := Tryz.sizeOf179
 v57 := Tryz.zeroValue179
 t63 := Tryz.underlying195
 a63 := Tryz.isAgg195
 z63 := Tryz.sizeOf195
 v63 := Tryz.zeroValue195
 t64 := Tryz.underlying196
 a64 := Tryz.isAgg196
 z64 := Tryz.sizeOf196
 v64 := Tryz.zeroValue196 }
def Tryz.laysSortFI_ren : Go.Shelf.Ren := ⟨fun | 6 => 198 | 15 => 73 | 14 => 218 | 28 => 120 | 29 => 121 | 20 => 224 | 21 => 225 | 22 => 226 | 23 => 227 | 24 => 228 | 25 => 229 | 26 => 230 | 27 => 231 | 46 => 232 | 47 => 172 | 48 => 173 | 49 => 233 | 50 => 234 | 57 => 235 | n => n, fun | 22 => 56 | 24 => 31 | 25 => 194 | 3 => 3 | 39 => 99 | 0 => 0 | 53 => 135 | 55 => 137 | 4 => 4 | 46 => 129 | 45 => 128 | 50 => 28 | 5 => 5 | 9 => 9 | 66 => 175 | 70 => 179 | 76 => 195 | 77 => 196 | n => n, fun | n => n⟩
theorem Tryz.laysSortFI : Go.Proofs.SlLaysF.n6 Tryz.prog Tryz.laysSortFI_ren := {
 mixed := by kernel_rfl
 f6 := ⟨Tryz.f198.name, by decide, Tryz.func198.trans (congrArg some (by kernel_rfl))⟩
 f14 := ⟨Tryz.f218.name, by decide, Tryz.func218.trans (congrArg some (by kernel_rfl))⟩
 f15 := Tryz.func73.trans (congrArg some (by kernel_rfl))
 f20 := ⟨Tryz.f224.name, by decide, Tryz.func224.trans (congrArg some (by kernel_rfl))⟩
 f21 := ⟨Tryz.f225.name, by decide, Tryz.func225.trans (congrArg some (by kernel_rfl))⟩
 f22 := ⟨Tryz.f226.name, by decide, Tryz.func226.trans (congrArg some (by kernel_rfl))⟩
 f23 := ⟨Tryz.f227.name, by decide, Tryz.func227.trans (congrArg some (by kernel_rfl))⟩
 f24 := ⟨Tryz.f228.name, by decide, Tryz.func228.trans (congrArg some (by kernel_rfl))⟩
 f25 := ⟨Tryz.f229.name, by decide, Tryz.func229.trans (congrArg some (by kernel_rfl))⟩
 f26 := ⟨Tryz.f230.name, by decide, Tryz.func230.trans (congrArg some (by kernel_rfl))⟩
 f27 := ⟨Tryz.f231.name, by decide, Tryz.func231.trans (congrArg some (by kernel_rfl))⟩
 f28 := Tryz.func120.trans (congrArg some (by kernel_rfl))
 f29 := Tryz.func121.trans (congrArg some (by kernel_rfl))
 f46 := ⟨Tryz.f232.name, by decide, Tryz.func232.trans (congrArg some (by kernel_rfl))⟩
 f47 := Tryz.func172.trans (congrArg some (by kernel_rfl))
 f48 := Tryz.func173.trans (congrArg some (by kernel_rfl))
 f49 := ⟨Tryz.f233.name, by decide, Tryz.func233.trans (congrArg some (by kernel_rfl))⟩
 f50 := ⟨Tryz.f234.name, by decide, Tryz.func234.trans (congrArg some (by kernel_rfl))⟩
 f57 := ⟨Tryz.f235.name, by decide, Tryz.func235.trans (congrArg some (by kernel_rfl))⟩
 t0 := Tryz.underlying0
 a0 := Tryz.isAgg0
 z0 := Tryz.sizeOf0
 v0 := Tryz.zeroValue0
 t3 := Tryz.underlying3
 a3 := Tryz.isAgg3
 z3 := Tryz.sizeOf3
 v3 := Tryz.zeroValue3
 t4 := Tryz.underlying4
 a4 := Tryz.isAgg4
 z4 := Tryz.sizeOf4
 v4 := Tryz.zeroValue4
 t5 := Tryz.underlying5
 a5 := Tryz.isAgg5
 z5 := Tryz.sizeOf5
 v5 := Tryz.zeroValue5
 t9 := Tryz.underlying9
 a9 := Tryz.isAgg9
 z9 := Tryz.sizeOf9
 v9 := Tryz.zeroValue9
 t22 := Tryz.underlying56
 a22 := Tryz.isAgg56
 z22 := Tryz.sizeOf56
 v22 := Tryz.zeroValue56
 a24 := Tryz.isAgg31
 z24 := Tryz.sizeOf31
 t25 := Tryz.underlying194
 a25 := Tryz.isAgg194
 z25 := Tryz.sizeOf194
 v25 := Tryz.zeroValue194
 t39 := Tryz.underlying99
 a39 := Tryz.isAgg99
 z39 := Tryz.sizeOf99
 v39 := Tryz.zeroValue99
 t45 := Tryz.underlying128
 a45 := Tryz.isAgg128
 z45 := Tryz.sizeOf128
 v45 := Tryz.zeroValue128
 t46 := Tryz.underlying129
 a46 := Tryz.isAgg129
 z46 := Tryz.sizeOf129
 v46 := Tryz.zeroValue129
 t50 := Tryz.underlying28
 a50 := Tryz.isAgg28
 z50 := Tryz.sizeOf28
 v50 := Tryz.zeroValue28
 t53 := Tryz.underlying135
 a53 := Tryz.isAgg135
 z53 := Tryz.sizeOf135
 v53 := Tryz.zeroValue135
 t55 := Tryz.underlying137
 a55 := Tryz.isAgg137
 z55 := Tryz.sizeOf137
 v55 := Tryz.zeroValue137
 t66 := Tryz.underlying175
 a66 := Tryz.isAgg175
 z66 := Tryz.sizeOf175
 v66 := Tryz.zeroValue175
 t70 := Tryz.underlying179
 a70 := Tryz.isAgg179
 z70 := Tryz.sizeOf179
 v70 := Tryz.zeroValue179
 t76 := Tryz.underlying195
 a76 := Tryz.isAgg195
 z76 := Tryz.sizeOf195
 v76 := Tryz.zeroValue195
 t77 := Tryz.underlying196
 a77 := Tryz.isAgg196
 z77 := Tryz.sizeOf196
 v77 := Tryz.zeroValue196 }
end Go.Proofs
namespace Go.Proofs.YtjohcjkidoalkaaGreatDoor
open Go.RowKit Go.Sort Go.PW.PrintWords Go.PW.PrintLast Go.PW.PrintMore
theorem Ze2 {α : Type} [Inhabited α] {enc : α → Value} {w : World} {base e g cap : Nat} {xs : List α} (h : w.ownsRow base e 1 (.slice (some ⟨g, 0, none⟩) xs.length cap) xs.length (xs.map enc)) :
  Holds enc w g 0 xs.toArray ∧ (xs ≠ [] → g < w.heap.size) ∧ base ≤ g := by
 obtain ⟨_, h2⟩ := h
 rcases h2 with ⟨hv, _⟩ | ⟨g', cap', cur, hv, hb, hh, hn, hc, hs, ht⟩
 ·cases hv
 ·injection hv with ha _ hcap
  injection ha with ha
  injection ha with hg _ _
  subst hg hcap
  refine ⟨fun j hj => ?_, fun _ => (Array.getElem?_eq_some_iff.1 hh).1, hb⟩
  have hj' : j < xs.length := by simpa using hj
  have hcell : cur.toList[j]? = some (enc xs[j]!) := by
   have h3 : (cur.toList.take (xs.length * 1))[j]? = (xs.map enc)[j]? := by rw [ht]
   rw [List.getElem?_take_of_lt (by omega), List.getElem?_map, List.getElem?_eq_getElem hj'] at h3
   rw [h3, getElem!_pos xs j hj']; rfl
  refine ⟨?_, by simp [World.frozen?, hh]⟩
  have : (xs.toArray)[j]! = xs[j]! := by simp
  rw [this]
  simp only [World.cell?, hh, Nat.zero_add]
  simpa using hcell
theorem Zey {α : Type} [Inhabited α] {enc : α → Value} {w w' : World} {base e g cap : Nat} {xs ys : List α} (hx : xs ≠ []) (hl : ys.length = xs.length)
  (h : w.ownsRow base e 1 (.slice (some ⟨g, 0, none⟩) xs.length cap) xs.length (xs.map enc)) {n : Nat} {os : Array Obj} (hw : w' = grow (putRow enc (Sort.ahead w n) g 0 ys.toArray) os) :
  w'.ownsRow base e 1 (.slice (some ⟨g, 0, none⟩) xs.length cap) xs.length (ys.map enc) ∧ w.heap.size ≤ w'.heap.size ∧ ∀ k, k < w.heap.size → k ≠ g → w'.heap[k]? = w.heap[k]? := by
 obtain ⟨_, h2⟩ := h
 rcases h2 with ⟨hv, _⟩ | ⟨g', cap', cur, hv, hb, hh, hn, hc, hs, ht⟩
 ·cases hv
 ·injection hv with ha _ hcap
  injection ha with ha
  injection ha with hg _ _
  subst hg hcap
  have hg' : g < w.heap.size := (Array.getElem?_eq_some_iff.1 hh).1
  have hput : (putRow enc (Sort.ahead w n) g 0 ys.toArray).heap[g]? = some (.cells (putCells enc 0 ys.toArray cur) e (0, 0)) := by
   simp [putRow, mapBlock, Array.getElem?_modify, hh]
   rfl
  have hw2 : ∀ k, k < w.heap.size → w'.heap[k]? = (putRow enc (Sort.ahead w n) g 0 ys.toArray).heap[k]? := by
   intro k hk
   subst hw
   simp only [grow]
   rw [Array.getElem?_append_left (by simpa using hk)]
  refine ⟨⟨by simp [hl], .inr ⟨g, cap, putCells enc 0 ys.toArray cur, rfl, hb, (hw2 g hg').trans hput, hn, hc, by simp [putCells, hs], ?_⟩⟩, by subst hw; simp, fun k hk hne => ?_⟩
  ·apply List.ext_getElem?
   intro j
   by_cases hj : j < xs.length
   ·have hj2 : j < ys.length := by omega
    have hjc : j < cur.size := by omega
    rw [List.getElem?_take_of_lt (by omega)]
    simp only [putCells, Array.toList_mapIdx, List.getElem?_mapIdx, List.getElem?_map]
    rw [List.getElem?_eq_getElem (by simpa using hjc), List.getElem?_eq_getElem hj2]
    simp [hj2]
   ·rw [List.getElem?_eq_none (by simp; omega), List.getElem?_eq_none (by simp; omega)]
  ·rw [hw2 k hk]
   simp [putRow, mapBlock, Array.getElem?_modify, Ne.symm hne]
theorem Ze5 {α : Type} [Inhabited α] {enc : α → Value} {w0 w w' : World} {g n : Nat} {d : Array α} {os : Array Obj} (hB : Below w0.heap.size w0 w) (hw : w' = grow (putRow enc (Sort.ahead w n) g 0 d) os)
  (h2 : w.heap.size ≤ w'.heap.size) (h3 : ∀ k, k < w.heap.size → k ≠ g → w'.heap[k]? = w.heap[k]?) (hg : w0.heap.size ≤ g) : Below w0.heap.size w0 w' := by
 refine ⟨?_, ?_, ?_, Nat.le_trans hB.size h2, fun k hk => (h3 k (Nat.lt_of_lt_of_le hk hB.size) (by omega)).trans (hB.block k hk)⟩
 ·subst hw; exact hB.os
 ·subst hw; exact hB.tape
 ·subst hw; exact hB.output
def sortS (l : List ByteArray) : List ByteArray := ((l.map fun s => s.data.toList).mergeSort fun x y => decide (x ≤ y)).map fun b => ⟨b.toArray⟩
theorem Zea (l : List ByteArray) : (sortS l).length = l.length := by simp [sortS]
theorem Zkw (l : List ByteArray) : (l.map fun s => s.data.toList).map encStr = l.map Value.string := by
 simp [encStr, Function.comp_def]
theorem Zjn (l : List (List UInt8)) : (l.map fun b => (⟨b.toArray⟩ : ByteArray)).map Value.string = l.map encStr := by
 simp [encStr, Function.comp_def]
def Zbe.f (l : List ByteArray) : Option (List ByteArray) := if l.length < 4611686018427387904 then some (sortS l) else none
theorem Zbe.calls (P0_ : Nat → Prop) (u9000_ : Value) (l0 : List ByteArray) (r : List ByteArray) (w0 w : World) (hB : Below w0.heap.size w0 w) (ho0 : Kd.R Kd.string 9 w w0.heap.size P0_ u9000_ l0) (h : Zbe.f l0 = some r) :
  Calls Tryz.prog 37 #[u9000_] w fun e w' => e = .returned (.tuple #[]) ∧ Kd.R Kd.string 9 w' w0.heap.size (fun k_ => (P0_ k_ ∨ w.heap.size ≤ k_)) u9000_ r ∧ Below w0.heap.size w0 w' ∧ Kept w w' (fun k_ => P0_ k_) := by
 unfold Zbe.f at h
 split at h
 ·rename_i hlen
  obtain rfl := Option.some.inj h
  by_cases hx : l0 = []
  ·subst hx
   obtain ⟨A, c, rfl, _⟩ := Kd.R_reads ho0
   refine (AnyM.slices_Sort_string_none Tryz.laysSortS A c w).mono fun e w' ⟨he, hw⟩ => ?_
   subst hw
   exact ⟨he, Kd.R_mono (by simpa [sortS] using ho0) (fun _ hk => .inl hk), hB, Kept.refl _ _⟩
  ·have hpos : 0 < l0.length := List.length_pos_iff.2 hx
   obtain ⟨g, cap, rfl, hbg, hglt, _⟩ := Kd.R_form ho0 hpos
   have hown := Kd.own_of_R ho0
   have hown2 : w.ownsRow w0.heap.size 9 1 (.slice (some ⟨g, 0, none⟩) (l0.map fun s => s.data.toList).length cap) (l0.map fun s => s.data.toList).length ((l0.map fun s => s.data.toList).map encStr) := by
    rw [Zkw, List.length_map]; exact hown
   obtain ⟨hH, _, _⟩ := Ze2 hown2
   have hc := AnyM.slices_Sort_string Tryz.laysSortS g 0 cap (l0.map fun s => s.data.toList) w hH hglt (by simpa using hlen)
   rw [List.length_map] at hc
   refine hc.mono fun e w' ⟨he, n, os, hw⟩ => ?_
   obtain ⟨h1, h2, h3⟩ := Zey (by simpa using hx) (by simp) hown2 hw
   rw [List.length_map] at h1
   have hk : ∀ k, k < w.heap.size → ¬ P0_ k → w'.heap[k]? = w.heap[k]? := fun k hk hn => h3 k hk (fun hg => hn (hg ▸ ho0.1 g (by simp [Value.ownBlock])))
   refine ⟨he, Kd.R_of_own (enc := Value.string) ?_ (fun k hk => .inl (ho0.1 k hk)), Ze5 hB hw h2 h3 hbg, h2, hk⟩
   rw [Zea, encs, sortS, Zjn]
   exact h1
 ·cases h
def Zb7.f (l0 l1 : List Int) : Option Bool := if l0 ≠ [] ∧ l1 ≠ [] then some (Lib.allEq (fun x y => x == y) l0 l1) else none
theorem Zb7.calls (A0 : Option Addr) (c0 : Nat) (l0 : List Int) (A1 : Option Addr) (c1 : Nat) (l1 : List Int) (r : Bool) (w : World) (hr0 : Kd.C (Kd.int .u8) w A0 l0.length l0) (hc0 : l0.length ≤ c0) (hr1 : Kd.C (Kd.int .u8) w A1 l1.length l1) (hc1 : l1.length ≤ c1) (h : Zb7.f l0 l1 = some r) :
  Calls Tryz.prog 127 #[.slice A0 l0.length c0, .slice A1 l1.length c1] w fun e w' => e = .returned (.bool r) ∧ Za8 w w' := by
 unfold Zb7.f at h
 split at h
 ·rename_i hne
  obtain rfl := Option.some.inj h
  obtain ⟨_, hm0, hx⟩ := Zdt hr0
  obtain ⟨_, hm1, hy⟩ := Zdt hr1
  rcases hx with rfl | ⟨b1, o1, rfl, _, hcx⟩
  ·exact absurd rfl hne.1
  rcases hy with rfl | ⟨b2, o2, rfl, _, hcy⟩
  ·exact absurd rfl hne.2
  have := AnyE.slices_Equal Tryz.laysEqualB (Value.int .u8) (fun x y => x == y) (NeqAt.int _ _ .u8) b1 o1 l0.length c0 b2 o2 l1.length c1 l0 l1 w (Nat.le_refl _) (Nat.le_refl _) hm0 hm1
   (fun j hj => hcx j _ (by rw [List.getElem?_eq_getElem hj, getElem!_pos l0 j hj])) (fun j hj => hcy j _ (by rw [List.getElem?_eq_getElem hj, getElem!_pos l1 j hj]))
  rw [List.take_length, List.take_length] at this
  exact this.mono fun e w' ⟨he, hw⟩ => ⟨he, ⟨hw⟩⟩
 ·cases h
theorem Zl4 : ∃ i, Tryz.prog.toTables.info? 5 = some i ∧ i.zero = some (.int .u8 0) ∧ i.size = 1 ∧ i.bytes = 1 := by
 have h1 : (Tryz.prog.toTables.info? 5).bind (·.zero) = some (.int .u8 0) := by kernel_rfl
 have h2 : (Tryz.prog.toTables.info? 5).map (·.size) = some 1 := by kernel_rfl
 have h3 : (Tryz.prog.toTables.info? 5).map (·.bytes) = some 1 := by kernel_rfl
 generalize Tryz.prog.toTables.info? 5 = o at h1 h2 h3
 cases o with
 | none => cases h1
 | some i => exact ⟨i, rfl, h1, by simpa using h2, by simpa using h3⟩
def Zce.f (l0 : List Int) : Option (List Int) := if l0 ≠ [] ∧ l0.length ≤ 140737488355328 then some l0 else none
theorem Zce.calls (A0 : Option Addr) (c0 : Nat) (l0 : List Int) (r : List Int) (w : World) (hr0 : Kd.C (Kd.int .u8) w A0 l0.length l0) (hc0 : l0.length ≤ c0) (h : Zce.f l0 = some r) :
  Calls Tryz.prog 215 #[.slice A0 l0.length c0] w fun e w' => ∃ u, e = .returned u ∧ Kd.R (Kd.int .u8) 5 w' w.heap.size (fun _ => True) u r ∧ Below w.heap.size w w' := by
 unfold Zce.f at h
 split at h
 ·rename_i hne
  obtain rfl := Option.some.inj h
  obtain ⟨_, hm0, hx⟩ := Zdt hr0
  rcases hx with rfl | ⟨b1, o1, rfl, _, hcx⟩
  ·exact absurd rfl hne.1
  obtain ⟨i0, hi, hz, hs, hb⟩ := Zl4
  refine (AnyE.slices_Clone Tryz.laysCloneB i0 (.int .u8 0) 1 1 hi hz hs hb rfl (by omega) Tryz.sizeOf5 b1 o1 l0.length c0 (encs (Value.int .u8) l0) w (by simp [encs]) hm0 (by omega) ?_ ?_).mono ?_
  ·intro j u hj
   simp only [encs, List.getElem?_map, Option.map_eq_some_iff] at hj
   obtain ⟨x, hx, rfl⟩ := hj
   exact hcx j x hx
  ·intro u hu
   simp only [encs, List.mem_map] at hu
   obtain ⟨x, _, rfl⟩ := hu
   rfl
  ·rintro e w' ⟨v', he, ho, _, hb⟩
   exact ⟨v', he, Kd.R_of_own ho (fun _ _ => trivial), hb⟩
 ·cases h
def Zcf.f (l : List Int) : Option Int := if l ≠ [] then some (Lib.minOf l) else none
theorem Zcf.calls (A0 : Option Addr) (c0 : Nat) (l0 : List Int) (r : Int) (w : World) (hr0 : Kd.C (Kd.int .i64) w A0 l0.length l0) (hc0 : l0.length ≤ c0) (h : Zcf.f l0 = some r) :
  Calls Tryz.prog 200 #[.slice A0 l0.length c0] w fun e w' => e = .returned (.int .i64 r) ∧ Za8 w w' := by
 unfold Zcf.f at h
 split at h
 ·rename_i hne
  obtain rfl := Option.some.inj h
  obtain ⟨_, hm0, hx⟩ := Zdt hr0
  rcases hx with rfl | ⟨b1, o1, rfl, _, hcx⟩
  ·exact absurd rfl hne
  have := Any.slices_Min_int Tryz.lays114 b1 o1 l0.length c0 l0 w (List.length_pos_iff.2 hne) (Nat.le_refl _) hm0
   (fun j hj => hcx j _ (by simp [List.getD_eq_getElem?_getD, List.getElem?_eq_getElem hj]))
  rw [List.take_length] at this
  exact this.mono fun e w' ⟨he, hw⟩ => ⟨he, hw ▸ Za8.refl _⟩
 ·cases h
end Go.Proofs.YtjohcjkidoalkaaGreatDoor
namespace Go.Proofs.YtjohcjkidoalkaaGreatDoor.PA
open Go.RowKit Go.PW.PrintWords Go.PW.PrintLast Go.PW.PrintMore
attribute [local go_sem] Zbo Zbm Zbz Zby Zbd Zbc Zbn Zbl
def Zb4.f (a0_0 : Int) (a0_1 : Int) (l0_2 : List Int) (a1 : Int) (a2 : Int) : Option (Int) := some (wrap64 ((wrap64 (a2 * a0_0)) + a1))
set_option maxHeartbeats 8000000 in
set_option maxRecDepth 100000 in
theorem Zb4.calls (a0_0 : Int) (a0_1 : Int) (A0_2 : Option Addr) (c0_2 : Nat) (l0_2 : List Int) (a1 : Int) (a2 : Int) (r : Int) (w : World) (hr0_2 : Kd.C (Kd.int .u8) w A0_2 l0_2.length l0_2) (hc0_2 : l0_2.length ≤ c0_2) (h : Zb4.f a0_0 a0_1 l0_2 a1 a2 = some r) :
  Calls Tryz.prog 216 #[.agg #[.int .i64 a0_0, .int .i64 a0_1, .slice A0_2 l0_2.length c0_2], .int .i64 a1, .int .i64 a2] w fun e w' => e = .returned (.int .i64 r) ∧ Below w.heap.size w w' := by
 have hu93 := Tryz.underlying93
 have HR0_2 := Zad.mk hr0_2
 have HC0_2 := Zad.mk hc0_2
 clear hr0_2 hc0_2
 have HB := Zad.mk (Below.refl w.heap.size w)
 have H : (some (wrap64 ((wrap64 (a2 * a0_0)) + a1))) = some r := h
 clear h
 obtain rfl := Option.some.inj H
 go_enter Tryz.func216, Tryz.ntmps216
 go_wp2_with (first | ((with_reducible refine Zay (N := 3) rfl ?_); refine Zaz ?hg (N := 3) ?hd (cs := #[.int .i64 a0_0, .int .i64 a0_1, .slice A0_2 l0_2.length c0_2]) (t := 93) ?hr ?_; (case hd => rfl); (case hg => rfl); (case hr => first | (go_simp; done) | (go_simp; rfl)); intro g01 hg w4 hbox hb; have n0_ := Zad.mk (Zal (by with_reducible repeat first | exact HB.out | apply Zac | apply Zaa | apply Zab) hb); have n1_ := Zad.mk (hbox); have n2_ := Zad.mk ((by rw [hg]; exact (Zak (by with_reducible repeat first | exact HB.out | apply Zac | apply Zaa | apply Zab)) : w.heap.size ≤ g01)); have n3_ := n2_; clear HB; have HB := n0_; have K01 := n1_; have W01 := n2_; have E01 := n3_; clear hb hbox hg; have hcz5_0 : w4.cell? ⟨g01, 0, none⟩ = some (.int .i64 a0_0) := (Zai K01.out 0).trans rfl; have hcz5_1 : w4.cell? ⟨g01, 1, none⟩ = some (.int .i64 a0_1) := (Zai K01.out 1).trans rfl; have hcz5_2 : w4.cell? ⟨g01, 2, none⟩ = some (.slice A0_2 l0_2.length c0_2) := (Zai K01.out 2).trans rfl; have hfz5_0 := Zae K01.out 0; have hfz5_1 := Zae K01.out 1; have hfz5_2 := Zae K01.out 2))
 go_ret
 exact ⟨by first | rfl | (simp [Zao, Zan] <;> rfl) | (simp [*, Zao, Zan] <;> rfl), by repeat (first | (with_reducible first | exact HB.out | apply Zac | apply Zaa | apply Zab | refine Zah ?_ E01.out) | exact HB.out)⟩
end Go.Proofs.YtjohcjkidoalkaaGreatDoor.PA
namespace Go.Proofs
open Go.Shelf
def Tryz.lays112_ren : Go.Shelf.Ren := ⟨fun | 112 => 217 | n => n, fun | 28 => 31 | 3 => 3 | 4 => 4 | 0 => 0 | n => n, fun | n => n⟩
theorem Tryz.lays112 : Go.Proofs.Lays.n112 Tryz.prog Tryz.lays112_ren := {
 mixed := by kernel_rfl
 f112 := Tryz.func217.trans (congrArg some (by kernel_rfl))
 t0 := Tryz.underlying0
 a0 := Tryz.isAgg0
 z0 := Tryz.sizeOf0
 v0 := Tryz.zeroValue0
 t3 := Tryz.underlying3
 a3 := Tryz.isAgg3
 z3 := Tryz.sizeOf3
 v3 := Tryz.zeroValue3
 t4 := Tryz.underlying4
 a4 := Tryz.isAgg4
 z4 := Tryz.sizeOf4
 v4 := Tryz.zeroValue4
 t28 := Tryz.underlying31
 a28 := Tryz.isAgg31
 z28 := Tryz.sizeOf31
 v28 := Tryz.zeroValue31 }
end Go.Proofs
namespace Go.Proofs.YtjohcjkidoalkaaGreatDoor
open Go.RowKit Go.Sort Go.PW.PrintWords Go.PW.PrintLast Go.PW.PrintMore
def Zbk.f (l : List Int) : Option (List Int) := if l.length ≤ 9223372036854775807 then some l.reverse else none
theorem Zbk.calls (P0_ : Nat → Prop) (u9000_ : Value) (l0 : List Int) (r : List Int) (w0 w : World) (hB : Below w0.heap.size w0 w) (ho0 : Kd.R (Kd.int .i64) 3 w w0.heap.size P0_ u9000_ l0) (h : Zbk.f l0 = some r) :
  Calls Tryz.prog 217 #[u9000_] w fun e w' => e = .returned (.tuple #[]) ∧ Kd.R (Kd.int .i64) 3 w' w0.heap.size (fun k_ => (P0_ k_ ∨ w.heap.size ≤ k_)) u9000_ r ∧ Below w0.heap.size w0 w' ∧ Kept w w' (fun k_ => P0_ k_) := by
 unfold Zbk.f at h
 split at h
 ·rename_i hlen
  obtain rfl := Option.some.inj h
  by_cases hx : l0 = []
  ·subst hx
   obtain ⟨A, c, rfl, _⟩ := Kd.R_reads ho0
   refine (Any.slices_Reverse_int_empty Tryz.lays112 A c w).mono fun e w' ⟨he, hw⟩ => ?_
   subst hw
   exact ⟨he, Kd.R_mono (by simpa using ho0) (fun _ hk => .inl hk), hB, Kept.refl _ _⟩
  ·have hpos : 0 < l0.length := List.length_pos_iff.2 hx
   obtain ⟨g, cap, rfl, hbg, hglt, _⟩ := Kd.R_form ho0 hpos
   have hown := Kd.own_of_R ho0
   obtain ⟨hH, _, _⟩ := Ze2 hown
   refine (Any.slices_Reverse_int Tryz.lays112 g 0 cap l0 w hH hlen).mono fun e w' ⟨he, n, hw⟩ => ?_
   obtain ⟨h1, h2, h3⟩ := Zey (os := #[]) (ys := l0.reverse) hx (by simp) hown (by simpa using hw)
   have hk : ∀ k, k < w.heap.size → ¬ P0_ k → w'.heap[k]? = w.heap[k]? := fun k hk hn => h3 k hk (fun hg => hn (hg ▸ ho0.1 g (by simp [Value.ownBlock])))
   refine ⟨he, Kd.R_of_own (enc := Value.int .i64) ?_ (fun k hk => .inl (ho0.1 k hk)), Ze5 (os := #[]) hB (by simpa using hw) h2 h3 hbg, h2, hk⟩
   rw [List.length_reverse]
   exact h1
 ·cases h
theorem Zlz (A0 : Option Addr) (c0 : Nat) (l0 : List Int) (A1 : Option Addr) (c1 : Nat) (l1 : List Int) (w : World) (hr0 : Kd.C (Kd.int .i64) w A0 l0.length l0) (hc0 : l0.length ≤ c0) (hr1 : Kd.C (Kd.int .i64) w A1 l1.length l1) (hc1 : l1.length ≤ c1) (h0 : l0 ≠ []) (h1 : l1 ≠ []) :
  Calls Tryz.prog 199 #[.slice A0 l0.length c0, .slice A1 l1.length c1] w fun e w' => e = .returned (.int .i64 (wrap64 (Lib.minOf l0 - Lib.minOf l1))) ∧ Za8 w w' := by
 have e0 : Zcf.f l0 = some (Lib.minOf l0) := by simp [Zcf.f, h0]
 have e1 : Zcf.f l1 = some (Lib.minOf l1) := by simp [Zcf.f, h1]
 go_enter Tryz.func199, Tryz.ntmps199
 go_wp2_with (first | (go_at_call_of 200 A0; refine (Zcf.calls A0 c0 l0 _ _ hr0 hc0 e0).mono ?_; rintro e w' ⟨rfl, ⟨n, rfl⟩⟩) | (go_at_call_of 200 A1; refine (Zcf.calls A1 c1 l1 _ _ ?_ hc1 e1).mono ?_; exact Kd.C_drewN hr1 _; rintro e w' ⟨rfl, ⟨n, rfl⟩⟩))
 go_ret
 exact ⟨rfl, ⟨_, rfl⟩⟩
def Zie (a b : List Int) : Bool := decide (Lib.minOf a ≤ Lib.minOf b)
def Zid (l : List (List Int)) : Bool := decide (l.length < 4611686018427387904) && l.all (fun a => decide (a ≠ [] ∧ 0 ≤ Lib.minOf a ∧ Lib.minOf a < 4294967296)) && decide ((l.map Lib.minOf).Pairwise (· ≠ ·))
def Za7.f (l : List (List Int)) : Option (List (List Int)) := if Zid l = true then some (l.mergeSort Zie) else none
theorem swo_of {α : Type} (m : α → Int) : SWO (ltOf fun x y => m x - m y) where
 irrefl x := by simp [ltOf]
 trans x y z h1 h2 := by simp [ltOf] at *; omega
 ntrans x y z h1 h2 := by simp [ltOf] at *; omega
theorem Zh5 {α : Type} [Inhabited α] {enc : α → Value} {w : World} {g m : Nat} {dk : Array α} {os : Array Obj} (k : Nat) (hk : k < w.heap.size) (hne : k ≠ g) : (sortWorld enc w g 0 m dk os).heap[k]? = w.heap[k]? := by
 simp only [sortWorld, grow]
 rw [Array.getElem?_append_left (by simpa using hk)]
 simp [putRow, mapBlock, Array.getElem?_modify, Ne.symm hne]
theorem Zko {x : Int} (h1 : -4294967296 < x) (h2 : x < 4294967296) : wrap64 x = x := by
 unfold wrap64; omega
theorem Zjg {l : List Value} {j : Nat} {v : Value} (h : (l.drop (j * 1)).take 1 = [v]) : l[j]? = some v := by
 rw [Nat.mul_one] at h
 have := congrArg (·[0]?) h
 simpa [List.getElem?_take, List.getElem?_drop] using this
theorem Za7.calls (P0_ : Nat → Prop) (u9000_ : Value) (l0 : List (List Int)) (r : List (List Int)) (w0 w : World) (hB : Below w0.heap.size w0 w) (ho0 : Kd.S (Kd.slice 3 (Kd.int .i64)) 31 w w0.heap.size P0_ u9000_ l0) (h : Za7.f l0 = some r) :
  Calls Tryz.prog 198 #[u9000_, .func (.func 199) #[] #[]] w fun e w' => e = .returned (.tuple #[]) ∧ Kd.S (Kd.slice 3 (Kd.int .i64)) 31 w' w0.heap.size P0_ u9000_ r ∧ Below w0.heap.size w0 w' := by
 unfold Za7.f at h
 split at h
 ·rename_i hok
  obtain rfl := Option.some.inj h
  simp only [Zid, Bool.and_eq_true, decide_eq_true_eq, List.all_eq_true] at hok
  obtain ⟨⟨hlen, hall⟩, hdis⟩ := hok
  by_cases hx : l0 = []
  ·subst hx
   obtain ⟨A, c, rfl, _⟩ := Kd.S_reads ho0
   refine (AnyF.slices_SortFunc_none { Tryz.laysSortFI with } A c _ w).mono fun e w' ⟨he, hw⟩ => ?_
   subst hw
   exact ⟨he, by simpa using ho0, hB⟩
  ·have hpos : 0 < l0.length := List.length_pos_iff.2 hx
   obtain ⟨g, cap, rfl, hbg, hglt, _⟩ := Kd.S_form ho0 hpos
   obtain ⟨f, hb0, inner, hown, hreps⟩ := ho0
   rw [List.length_zipIdx] at hown
   have hil : inner.length = l0.length := by have := hown.1; simpa [Kd.tag, Kd.slice] using this
   have hel : ∀ i : Fin l0.length, (Kd.int .i64).R 3 w w0.heap.size (fun k => (P0_ k ∧ some k ≠ (Value.slice (some ⟨g, 0, none⟩) l0.length cap).ownBlock) ∧ f k = i.1) (inner[i.1]'(by omega)) l0[i] := by
    intro i
    have hz := hreps.2 i.1 (l0[i], i.1) (Kd.zip_at (List.getElem?_eq_getElem i.2))
    obtain ⟨v, hv, hR⟩ := hz
    have h1 := Zjg hv
    rw [List.getElem?_eq_getElem (by omega)] at h1
    rw [Option.some.inj h1]
    exact hR
   have : Inhabited (Fin l0.length) := ⟨⟨0, hpos⟩⟩
   let enc : Fin l0.length → Value := fun i => inner[i.1]'(by omega)
   have hmap : (List.finRange l0.length).map enc = inner := by
    apply List.ext_getElem
    ·simp [hil]
    ·intro j h1 h2
     simp [enc]
   have hone : OneCell enc := fun i => by
    obtain ⟨A, c, hv, _⟩ := Kd.R_reads (hel i)
    show (inner[i.1]'_).oneCell' = true
    rw [hv]; rfl
   have hown2 : w.ownsRow w0.heap.size 31 1 (.slice (some ⟨g, 0, none⟩) (List.finRange l0.length).length cap) (List.finRange l0.length).length ((List.finRange l0.length).map enc) := by
    rw [List.length_finRange, hmap]; exact hown
   obtain ⟨hH, _, _⟩ := Ze2 hown2
   let m : Fin l0.length → Int := fun i => Lib.minOf l0[i]
   have hm : ∀ i, l0[i] ≠ [] ∧ 0 ≤ m i ∧ m i < 4294967296 := fun i => by
    have := hall l0[i] (List.getElem_mem _)
    simpa [m] using this
   have hinj : ∀ i j, m i = m j → i = j := by
    intro i j hij
    have hp := List.pairwise_iff_getElem.1 hdis
    rcases Nat.lt_trichotomy i.1 j.1 with h1 | h1 | h1
    ·exact absurd (by simpa [m] using hij) (hp i.1 j.1 (by simp) (by simp) h1)
    ·exact Fin.ext h1
    ·exact absurd (by simpa [m] using hij.symm) (hp j.1 i.1 (by simp) (by simp) h1)
   have hcmp : CmpLays1 Tryz.prog 199 #[] enc (fun x y => m x - m y) g 0 (List.finRange l0.length).toArray.size w := by
    intro q os dk hs x y
    have hst : ∀ z : Fin l0.length, (Kd.int .i64).R 3 (sortWorld enc w g 0 q dk os) w0.heap.size (fun k => (P0_ k ∧ some k ≠ (Value.slice (some ⟨g, 0, none⟩) l0.length cap).ownBlock) ∧ f k = z.1) (enc z) l0[z] := fun z =>
     Kd.R_step (hel z) (fun k ho hk => Zh5 k hk (fun he => ho.1.2 (by rw [he]; rfl)))
    obtain ⟨A0, c0, hv0, hl0, hC0⟩ := Kd.R_reads (hst x)
    obtain ⟨A1, c1, hv1, hl1, hC1⟩ := Kd.R_reads (hst y)
    rw [hv0, hv1]
    refine (Zlz A0 c0 _ A1 c1 _ _ hC0 hl0 hC1 hl1 (hm x).1 (hm y).1).mono fun e w' ⟨he, ⟨q', hw⟩⟩ => ⟨?_, q', #[], by rw [hw, grow_empty]⟩
    have hx1 := hm x
    have hy1 := hm y
    rw [he, Zko (by show -4294967296 < m x - m y; omega) (by show m x - m y < 4294967296; omega)]
   have hsort := Any.slices_SortFunc_total Tryz.laysSortFI enc hone (fun x y => m x - m y) (swo_of m) 199 #[] g 0 cap (List.finRange l0.length).toArray w (enters_of Tryz.func199 (by kernel_rfl) rfl) hcmp hH hglt (by simpa using hlen) (fun x y h1 h2 => hinj x y (by simp [ltOf] at h1 h2; omega))
   rw [List.size_toArray, List.length_finRange] at hsort
   refine hsort.mono fun e w' ⟨he, n, os, hw⟩ => ?_
   let ys : List (Fin l0.length) := (List.finRange l0.length).mergeSort fun x y => !ltOf (fun x y => m x - m y) y x
   have hyl : ys.length = l0.length := by simp [ys]
   have hnd : ys.Nodup := ((List.mergeSort_perm _ _).nodup_iff).2 (List.nodup_finRange _)
   obtain ⟨h1, h2, h3⟩ := Zey (ys := ys) (by rw [Ne, ← List.length_eq_zero_iff, List.length_finRange]; omega) (by simp [ys]) hown2 hw
   have hr : l0.mergeSort Zie = ys.map fun i => l0[i] := by
    have hl : l0 = (List.finRange l0.length).map fun i => l0[i] := by
     apply List.ext_getElem
     ·simp
     ·intro j h1 h2
      simp
    conv => lhs; rw [hl]
    symm
    refine List.map_mergeSort fun a _ b _ => ?_
    simp only [ltOf, Zie, m]
    by_cases hab : Lib.minOf l0[a] ≤ Lib.minOf l0[b]
    ·have hn : ¬ (Lib.minOf l0[b] - Lib.minOf l0[a] < 0) := by omega
     simp only [hab, hn, decide_true, decide_false, Bool.not_false]
    ·have hn : Lib.minOf l0[b] - Lib.minOf l0[a] < 0 := by omega
     simp only [hab, hn, decide_true, decide_false, Bool.not_true]
   have hst : ∀ z : Fin l0.length, (Kd.int .i64).R 3 w' w0.heap.size (fun k => (P0_ k ∧ some k ≠ (Value.slice (some ⟨g, 0, none⟩) l0.length cap).ownBlock) ∧ f k = z.1) (enc z) l0[z] := fun z =>
    Kd.R_step (hel z) (fun k ho hk => h3 k hk (fun he => ho.1.2 (by rw [he]; rfl)))
   refine ⟨he, ?_, Ze5 hB hw h2 h3 hbg⟩
   refine ⟨fun k => if h : f k < l0.length then ys.idxOf (⟨f k, h⟩ : Fin l0.length) else l0.length, hb0, ys.map enc, ?_, ?_, ?_⟩
   ·rw [List.length_zipIdx, hr, List.length_map, hyl]
    rw [List.length_finRange] at h1
    exact h1
   ·rw [List.length_zipIdx, hr, List.length_map, List.length_map]; show ys.length = ys.length * 1; omega
   ·intro j p hj
    rw [hr, List.getElem?_zipIdx, List.getElem?_map] at hj
    obtain ⟨x, hx', rfl⟩ := Option.map_eq_some_iff.1 hj
    obtain ⟨i, hi, rfl⟩ := Option.map_eq_some_iff.1 hx'
    refine ⟨enc i, ?_, Kd.R_mono (hst i) fun k hk => ⟨hk.1, ?_⟩⟩
    ·apply List.ext_getElem?
     intro q
     cases q with
     | zero => simp [Kd.tag, Kd.slice, List.getElem?_take, List.getElem?_drop, hi]
     | succ q => simp [Kd.tag, Kd.slice, List.getElem?_take]
    ·have hfi : f k = i.1 := hk.2
     have hj' : j < ys.length := (List.getElem?_eq_some_iff.1 hi).1
     have hij : ys[j] = i := (List.getElem?_eq_some_iff.1 hi).2
     show (if h : f k < l0.length then ys.idxOf (⟨f k, h⟩ : Fin l0.length) else l0.length) = _
     rw [dif_pos (by rw [hfi]; exact i.2)]
     have : (⟨f k, by rw [hfi]; exact i.2⟩ : Fin l0.length) = ys[j] := by rw [hij]; exact Fin.ext hfi
     rw [this]
     simpa using hnd.idxOf_getElem j hj'
 ·cases h
end Go.Proofs.YtjohcjkidoalkaaGreatDoor
