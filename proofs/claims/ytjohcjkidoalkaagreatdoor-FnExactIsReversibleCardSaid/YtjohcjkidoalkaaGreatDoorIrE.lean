/- Contracts of functions and plain lemmas, for the last text. -/
import Derived.Test.YtjohcjkidoalkaaGreatDoorIrD
import Derived.Shelf.Strings.OnBuilder
import Derived.Shelf.Strings.Trim
import Derived.Shelf.Strings.SlTrimAscii
import Derived.Shelf.Strings.Search1
import Derived.Shelf.Strings.Search2
import Derived.Shelf.Strings.Count
import Derived.Test.YtjohcjkidoalkaaGreatDoorProg
import Derived.Lib.Join
import Derived.Lib.SlTrimSet
import Derived.Shelf.Small.Strs
import Derived.Shelf.Sort.Plain
import Derived.Shelf.Slices.Turned
import Derived.Ground.SlgnProg
import Derived.Ground.SlsfProg
import Derived.Ground.SlgmProg
import Derived.Shelf.SlGeneric
import Derived.Shelf.SlicesE.Index
import Derived.Shelf.SlicesE.Equal
import Derived.Shelf.SlicesE.Compact
import Derived.Shelf.SlicesE.Clone
import Derived.Shelf.SortM.Plain
import Derived.Shelf.SortM.SortNone
import Derived.Shelf.SlSortCmp.Whole1
import Derived.Shelf.SlSortCmp.NoneTotal
import Derived.Shelf.Slices.Reverse
set_option linter.unusedVariables false
set_option linter.unusedSimpArgs false
namespace Go.Proofs.YtjohcjkidoalkaaGreatDoor.PA
open Go.RowKit Go.PW.PrintWords Go.PW.PrintLast Go.PW.PrintMore
attribute [local go_sem] Zbn Zbl Zb3 Zb2 Zbb Zba Zbm Zbk
mutual
def Zam.l0 : Nat → Int → List (List Int) → List Int → Int → Int → Int → Int → List Int → Option ((List (List Int)))
 | 0, _, _, _, _, _, _, _, _ => none
 | k + 1, x1, x5, x13, x14, x15, X020, X021, X022 => if x15 < x14 then (if 0 ≤ x15 then (if x15 < (x13.length : Int) then (if (rd x13 x15) = 35 then (Zam.j1 k x1 x5 x15 x13 x14 x15 true X020 X021 X022) else ((Zcd.f X020 X021 X022 x15 x1).bind fun t103 => (Zam.j1 k x1 x5 x15 x13 x14 x15 (decide (t103 ≥ 0)) X020 X021 X022))) else (none)) else (none)) else (some x5)
def Zam.j1 : Nat → Int → List (List Int) → Int → List Int → Int → Int → Bool → Int → Int → List Int → Option ((List (List Int)))
 | 0, _, _, _, _, _, _, _, _, _, _ => none
 | k + 1, x1, x5, x6, x13, x14, x15, x28, X020, X021, X022 => if x28 = true then (Zam.l0 k x1 x5 x13 x14 (wrap64 (x15 + 1)) X020 X021 X022) else ((Zcd.f X020 X021 X022 x6 (Int.tmod (wrap64 (x1 + 2)) 4)).bind fun t107 => (Zam.l1 k x1 x5 (([x6] : List Int)) t107 x13 x14 x15 X020 X021 X022))
def Zam.l1 : Nat → Int → List (List Int) → List Int → Int → List Int → Int → Int → Int → Int → List Int → Option ((List (List Int)))
 | 0, _, _, _, _, _, _, _, _, _, _ => none
 | k + 1, x1, x5, x8, x9, x13, x14, x15, X020, X021, X022 => if x9 ≥ 0 then (if x8.length < 17592186044416 then ((Zcd.f X020 X021 X022 x9 (Int.tmod (wrap64 (x1 + 2)) 4)).bind fun t111 => (Zam.l1 k x1 x5 (x8 ++ [x9]) t111 x13 x14 x15 X020 X021 X022)) else (none)) else (Zam.l2 k x1 x5 x8 0 x13 x14 x15 X020 X021 X022)
def Zam.l2 : Nat → Int → List (List Int) → List Int → Int → List Int → Int → Int → Int → Int → List Int → Option ((List (List Int)))
 | 0, _, _, _, _, _, _, _, _, _, _ => none
 | k + 1, x1, x5, x8, x10, x13, x14, x15, X020, X021, X022 => if x10 < (x5.length : Int) then (if 0 ≤ x10 then ((Zbc.f k (rd_L3 x5 x10)).bind fun t113 => ((Zbc.f k x8).bind fun t114 => (if t113 < t114 then (Zam.l2 k x1 x5 x8 (wrap64 (x10 + 1)) x13 x14 x15 X020 X021 X022) else ((some (([] : List (List Int)) : List (List Int))).bind fun y115 => (if x10 ≤ (x5.length : Int) then ((some (x5.take (x10 : Int).toNat : List (List Int))).bind fun y118 => (if y115.length + y118.length < 5864062014805 then ((some (y115 ++ y118 : List (List Int))).bind fun y123 => (if y123.length < 5864062014805 then ((some (y123 ++ [x8] : List (List Int))).bind fun y126 => ((some (x5.drop (x10 : Int).toNat : List (List Int))).bind fun y129 => (if y126.length + y129.length < 5864062014805 then (Zam.l0 k x1 (y126 ++ y129) x13 x14 (wrap64 (x15 + 1)) X020 X021 X022) else (none)))) else (none))) else (none))) else (none)))))) else (none)) else ((some (([] : List (List Int)) : List (List Int))).bind fun y137 => (if 0 ≤ x10 then (if x10 ≤ (x5.length : Int) then ((some (x5.take (x10 : Int).toNat : List (List Int))).bind fun y140 => (if y137.length + y140.length < 5864062014805 then ((some (y137 ++ y140 : List (List Int))).bind fun y145 => (if y145.length < 5864062014805 then ((some (y145 ++ [x8] : List (List Int))).bind fun y148 => ((some (x5.drop (x10 : Int).toNat : List (List Int))).bind fun y151 => (if y148.length + y151.length < 5864062014805 then (Zam.l0 k x1 (y148 ++ y151) x13 x14 (wrap64 (x15 + 1)) X020 X021 X022) else (none)))) else (none))) else (none))) else (none)) else (none)))
end
def Zam.f (k : Nat) (a0_0 : Int) (a0_1 : Int) (l0_2 : List Int) (a1 : Int) : Option ((List (List Int))) := Zam.l0 k a1 ([] : List (List Int)) l0_2 (l0_2.length : Int) 0 a0_0 a0_1 l0_2
set_option maxHeartbeats 8000000 in
set_option maxRecDepth 100000 in
theorem Zam.calls (k : Nat) (a0_0 : Int) (a0_1 : Int) (A0_2 : Option Addr) (c0_2 : Nat) (l0_2 : List Int) (a1 : Int) (r : List (List Int)) (w : World) (hr0_2 : Kd.C (Kd.int .u8) w A0_2 l0_2.length l0_2) (hc0_2 : l0_2.length ≤ c0_2) (h : Zam.f k a0_0 a0_1 l0_2 a1 = some r) :
  Calls Tryz.prog 103 #[.agg #[.int .i64 a0_0, .int .i64 a0_1, .slice A0_2 l0_2.length c0_2], .int .i64 a1] w fun e w' => ∃ v0_ : Value, e = .returned (v0_) ∧ Kd.N (Kd.slice 3 (Kd.int .i64)) 31 w' w.heap.size (fun k_ => (w.heap.size ≤ k_)) v0_ r ∧ Below w.heap.size w w' := by
 have hu52 := Tryz.underlying52
 have HR0_2 := Zad.mk hr0_2
 have HC0_2 := Zad.mk hc0_2
 clear hr0_2 hc0_2
 have HB := Zad.mk (Below.refl w.heap.size w)
 have H : (Zam.l0 k a1 ([] : List (List Int)) l0_2 (l0_2.length : Int) 0 a0_0 a0_1 l0_2) = some r := h
 clear h
 have H' := Zad.mk H
 clear H
 go_enter Tryz.func103, Tryz.ntmps103
 go_wp2_with (first | ((with_reducible refine Zaz (N := 2) rfl ?_); refine Zay ?hg (N := 2) ?hd (cs := #[.int .i64 a0_0, .int .i64 a0_1, .slice A0_2 l0_2.length c0_2]) (t := 52) ?hr ?_; (case hd => rfl); (case hg => rfl); (case hr => first | (go_simp; done) | (go_simp; rfl)); intro g01 hg w3 hbox hb; have n0_ := Zad.mk (Zal (by with_reducible repeat first | exact HB.out | apply Zac | apply Zaa | apply Zab) hb); have n1_ := Zad.mk (hbox); have n2_ := Zad.mk ((by rw [hg]; exact (Zak (by with_reducible repeat first | exact HB.out | apply Zac | apply Zaa | apply Zab)) : w.heap.size ≤ g01)); have n3_ := n2_; clear HB; have HB := n0_; have K01 := n1_; have W01 := n2_; have E01 := n3_; clear hb hbox hg; have hcz4_0 : w3.cell? ⟨g01, 0, none⟩ = some (.int .i64 a0_0) := (Zah K01.out 0).trans rfl; have hcz4_1 : w3.cell? ⟨g01, 1, none⟩ = some (.int .i64 a0_1) := (Zah K01.out 1).trans rfl; have hcz4_2 : w3.cell? ⟨g01, 2, none⟩ = some (.slice A0_2 l0_2.length c0_2) := (Zah K01.out 2).trans rfl; have hfz4_0 := Zae K01.out 0; have hfz4_1 := Zae K01.out 1; have hfz4_2 := Zae K01.out 2))
 go_loopg [5, 15] k (fun kq v5 v15 w' => ∃ (x5_1 : List (List Int)) (x15_1 : Int), v15 = .int .i64 x15_1 ∧ Zad (Zam.l0 kq a1 x5_1 l0_2 (l0_2.length : Int) x15_1 a0_0 a0_1 l0_2 = some r) ∧ Zad (kq ≤ k) ∧ Zad (Kd.N (Kd.slice 3 (Kd.int .i64)) 31 w' w.heap.size (fun k_ => (w.heap.size ≤ k_) ∧ k_ ≠ g01) v5 x5_1) ∧ Zad (w'.heap[g01]? = some (.cells #[.int .i64 a0_0, .int .i64 a0_1, (.slice A0_2 l0_2.length c0_2)] 52 (0, 0))) ∧ Zad (Below w.heap.size w w'))
 case atStart => exact ⟨(([] : List (List Int))), (0), (by first | rfl | (simp; done) | (simp [*]; done)), H', ⟨Nat.le_refl _⟩, ⟨by first | exact Kd.S_nil _ _ _ _ _ | exact Kd.N_nil _ _ _ _ _ | exact Kd.V_nil _ _ _ _ _ | exact Kd.Q_nil _ _ _ _ _ | exact Kd.R_nil _ _ _ _ _⟩, ⟨by (with_reducible repeat (first | refine Zaf ?_ _ | refine Zaj ?_ | refine Zag ?_ _)); exact K01.out⟩, ⟨by with_reducible repeat first | exact HB.out | apply Zac | apply Zaa | apply Zab | refine Zai ?_ E01.out⟩⟩
 case round =>
  clear H'
  obtain ⟨x5_1, x15_1, rfl, HA, HK1, HO_5, K01, HB⟩ := hrel
  cases gk with
  | zero => exact absurd HA.out (by simp [Zam.l0])
  | succ k1 =>
   have H := HA.out
   clear HA
   simp only [Zam.l0] at H
   by_cases c5 : x15_1 < (l0_2.length : Int)
   ·rw [if_pos c5] at H
    have c5b0 : decide (x15_1 < (l0_2.length : Int)) = true := decide_eq_true c5
    clear c5
    by_cases c6 : 0 ≤ x15_1
    ·rw [if_pos c6] at H
     have c6b0 : decide (0 ≤ x15_1) = true := decide_eq_true c6
     clear c6
     by_cases c7 : x15_1 < (l0_2.length : Int)
     ·rw [if_pos c7] at H
      have c7b0 : decide (x15_1 < (l0_2.length : Int)) = true := decide_eq_true c7
      clear c7
      have HC8 := Zad.mk H
      clear H
      have p102 : 0 ≤ (x15_1 : Int) := of_decide_eq_true (by first | (with_reducible assumption) | assumption)
      have q102 : x15_1 < (l0_2.length : Int) := of_decide_eq_true (by first | (with_reducible assumption) | assumption)
      obtain ⟨ad102, e102, hx102_0⟩ := Kd.at_int HR0_2.out x15_1 p102 q102
      cases e102
      (first | (replace hx102_0 := (HB.out.cell (World.block_lt_of_cell? w _ hx102_0)).trans hx102_0) | skip)
      replace p102 := eq_true p102
      replace q102 := eq_true q102
      go_upto_region 5 with (fail)
      go_cut [28] (fun v28 wc => ∃ (kq : Nat) (x28_7 : Bool), v28 = .bool x28_7 ∧ Zad (Zam.j1 kq a1 x5_1 x15_1 l0_2 (l0_2.length : Int) x15_1 x28_7 a0_0 a0_1 l0_2 = some r) ∧ Zad (kq ≤ k1) ∧ Zad (Kd.N (Kd.slice 3 (Kd.int .i64)) 31 wc w.heap.size (fun k_ => (w.heap.size ≤ k_) ∧ k_ ≠ g01) u5 x5_1) ∧ Zad (wc.heap[g01]? = some (.cells #[.int .i64 a0_0, .int .i64 a0_1, (.slice (some ad102) l0_2.length c0_2)] 52 (0, 0))) ∧ Zad (Below w.heap.size w wc))
      case first =>
       have H := HC8.out
       clear HC8
       by_cases c9 : (rd l0_2 x15_1) = 35
       ·rw [if_pos c9] at H
        have c9b0 : ((rd l0_2 x15_1) == 35) = true := beq_iff_eq.mpr c9
        have c9b1 : ((rd l0_2 x15_1) != 35) = false := bne_eq_false_iff_eq.mpr c9
        clear c9
        (first | rw [c9b0] | (simp only [i64_w, i32_w]; rw [c9b0]) | skip)
        have H' := Zad.mk H
        clear H
        go_wp2
        go_meet
        case rel => exact ⟨_, (true), (by first | rfl | (simp; done) | (simp [*]; done)), H', ⟨by have := HK1.out; first | omega | exact Nat.le_refl _⟩, ⟨by (with_reducible repeat (first | apply Kd.N_alloc | apply Kd.N_drewN | apply Kd.N_drew)); exact HO_5.out⟩, ⟨by (with_reducible repeat (first | refine Zaf ?_ _ | refine Zaj ?_ | refine Zag ?_ _)); exact K01.out⟩, ⟨by with_reducible repeat first | exact HB.out | apply Zac | apply Zaa | apply Zab | refine Zai ?_ E01.out⟩⟩
       ·rw [if_neg c9] at H
        have c9b0 : ((rd l0_2 x15_1) == 35) = false := beq_eq_false_iff_ne.mpr c9
        have c9b1 : ((rd l0_2 x15_1) != 35) = true := bne_iff_ne.mpr c9
        (first | rw [c9b0] | (simp only [i64_w, i32_w]; rw [c9b0]) | skip)
        replace H := Option.bind_eq_some_iff.mp H
        obtain ⟨t103, A100, H⟩ := H
        replace H : (Zam.j1 k1 a1 x5_1 x15_1 l0_2 (l0_2.length : Int) x15_1 (decide (t103 ≥ 0)) a0_0 a0_1 l0_2) = some r := H
        have A10 := Zad.mk A100
        clear A100
        have H' := Zad.mk H
        clear H
        have hcz11_0 : wr.cell? ⟨g01, 0, none⟩ = some (.int .i64 a0_0) := (Zah K01.out 0).trans rfl
        have hcz11_1 : wr.cell? ⟨g01, 1, none⟩ = some (.int .i64 a0_1) := (Zah K01.out 1).trans rfl
        have hcz11_2 : wr.cell? ⟨g01, 2, none⟩ = some (.slice (some ad102) l0_2.length c0_2) := (Zah K01.out 2).trans rfl
        have hfz11_0 := Zae K01.out 0
        have hfz11_1 := Zae K01.out 1
        have hfz11_2 := Zae K01.out 2
        go_wp2_with (first | (go_at_call 154; (with_reducible refine (Zcd.calls a0_0 a0_1 _ _ l0_2 x15_1 a1 t103 _ ?side1 ?side2 A10.out).mono ?_); (case side1 => repeat (first | exact (Kd.C_below HR0_2.out HB.out) | (with_reducible refine Kd.C_alloc ?_ _) | (with_reducible refine Kd.C_drewN ?_ _) | (with_reducible refine Kd.C_drew ?_))); (case side2 => exact HC0_2.out); rintro e w12 ⟨rfl, hb⟩; have n0_ := Zad.mk (Kd.N_below (by (with_reducible repeat (first | apply Kd.N_alloc | apply Kd.N_drewN | apply Kd.N_drew)); exact HO_5.out) hb); have n1_ := Zad.mk (Zat (g := g01) (o := .cells #[.int .i64 a0_0, .int .i64 a0_1, .slice (some ad102) l0_2.length c0_2] 52 (0, 0)) (by (with_reducible repeat (first | refine Zaf ?_ _ | refine Zaj ?_ | refine Zag ?_ _)); exact K01.out) hb); have n2_ := Zad.mk (Zal (by with_reducible repeat first | exact HB.out | apply Zac | apply Zaa | apply Zab | refine Zai ?_ E01.out) hb); clear HO_5; clear K01; clear HB; have HO_5 := n0_; have K01 := n1_; have HB := n2_))
        go_meet
        case rel => exact ⟨_, (decide (t103 ≥ 0)), (by first | rfl | (simp; done) | (simp [*]; done)), H', ⟨by have := HK1.out; first | omega | exact Nat.le_refl _⟩, ⟨by (with_reducible repeat (first | apply Kd.N_alloc | apply Kd.N_drewN | apply Kd.N_drew)); exact HO_5.out⟩, ⟨by (with_reducible repeat (first | refine Zaf ?_ _ | refine Zaj ?_ | refine Zag ?_ _)); exact K01.out⟩, ⟨by with_reducible repeat first | exact HB.out | apply Zac | apply Zaa | apply Zab | refine Zai ?_ E01.out⟩⟩
      case rest =>
       clear HC8
       obtain ⟨kq, x28_7, rfl, HA, HJ7, HO_5, K01, HB⟩ := hcut
       cases kq with
       | zero => exact absurd HA.out (by simp [Zam.j1])
       | succ kj7 =>
        have H := HA.out
        clear HA
        simp only [Zam.j1] at H
        by_cases c13 : x28_7 = true
        ·subst c13
         have H1 : (Zam.l0 kj7 a1 x5_1 l0_2 (l0_2.length : Int) (wrap64 (x15_1 + 1)) a0_0 a0_1 l0_2) = some r := by rw [if_pos rfl] at H; exact H
         clear H
         have H := H1
         clear H1
         have H' := Zad.mk H
         clear H
         go_wp2
         go_roundg kj7
         case measure => have := HK1.out; have := HJ7.out; omega
         case rel => exact ⟨(x5_1), (wrap64 (x15_1 + 1)), (by first | rfl | (simp; done) | (simp [*]; done)), H', ⟨by have := HK1.out; have := HJ7.out; omega⟩, ⟨by (with_reducible repeat (first | apply Kd.N_alloc | apply Kd.N_drewN | apply Kd.N_drew)); exact HO_5.out⟩, ⟨by (with_reducible repeat (first | refine Zaf ?_ _ | refine Zaj ?_ | refine Zag ?_ _)); exact K01.out⟩, ⟨by with_reducible repeat first | exact HB.out | apply Zac | apply Zaa | apply Zab | refine Zai ?_ E01.out⟩⟩
        ·replace c13 := Bool.eq_false_iff.mpr c13
         subst c13
         have H1 : ((Zcd.f a0_0 a0_1 l0_2 x15_1 (Int.tmod (wrap64 (a1 + 2)) 4)).bind fun t107 => (Zam.l1 kj7 a1 x5_1 (([x15_1] : List Int)) t107 l0_2 (l0_2.length : Int) x15_1 a0_0 a0_1 l0_2)) = some r := by rw [if_neg (show ¬ (false = true) by decide)] at H; exact H
         clear H
         have H := H1
         clear H1
         obtain ⟨y104, hy104⟩ : ∃ y_ : List Int, y_ = (([x15_1] : List Int)) := ⟨_, rfl⟩
         replace H : ((Zcd.f a0_0 a0_1 l0_2 x15_1 (Int.tmod (wrap64 (a1 + 2)) 4)).bind fun t107 => (Zam.l1 kj7 a1 x5_1 y104 t107 l0_2 (l0_2.length : Int) x15_1 a0_0 a0_1 l0_2)) = some r := by first | (rw [hy104]; with_reducible exact H) | (have H2_ := (Option.bind_some _ _).symm.trans H; rw [hy104]; with_reducible exact H2_) | (have H2_ := (Option.bind_some _ _).symm.trans H; with_reducible exact H2_) | with_reducible exact H | (rw [hy104]; exact H) | exact H
         have Ny104 := Zad.mk hy104
         clear hy104
         replace H := Option.bind_eq_some_iff.mp H
         obtain ⟨t107, A140, H⟩ := H
         replace H : (Zam.l1 kj7 a1 x5_1 y104 t107 l0_2 (l0_2.length : Int) x15_1 a0_0 a0_1 l0_2) = some r := H
         have A14 := Zad.mk A140
         clear A140
         have H' := Zad.mk H
         clear H
         go_wp2_with (first | ((with_reducible refine Zaz (N := 30) rfl ?_); refine Kd.R_lit (Kd.int .i64) _ 3 ?hg (N := 30) ?hd (xs := ([x15_1] : List Int)) (inner := [.int .i64 x15_1]) (ok := fun _ => True) (okp := fun _ => True) ?hr ?hp (fun _ hk => hk) trivial (Below.refl _ _) (Nat.le_refl _) (by simp) ?_; (case hd => rfl); (case hg => rfl); (case hr => first | (go_simp; done) | (go_simp; rfl)); (case hp => exact (Reps.one (show Kd.M (Kd.int .i64) _ _ _ x15_1 [.int .i64 x15_1] from rfl) (Reps.none _ _))); intro v105 w15 ho16 hb hg_ hnew_; clear hg_ hnew_; (first | rw [← Ny104.out] at ho16 | (simp only [Int.reduceToNat] at ho16; rw [← Ny104.out] at ho16)); have n0_ := Zad.mk (Kd.N_elder' (by (with_reducible repeat (first | apply Kd.N_alloc | apply Kd.N_drewN | apply Kd.N_drew)); exact HO_5.out) (Kd.R_base ho16) hb); have n1_ := Zad.mk (Kd.R_lower (Kd.R_newM (M := fun k_ => (w.heap.size ≤ k_)) ho16 (Zak (by with_reducible repeat first | exact HB.out | apply Zac | apply Zaa | apply Zab | refine Zai ?_ E01.out)) (fun k_ h_ => h_)) (Zak (by with_reducible repeat first | exact HB.out | apply Zac | apply Zaa | apply Zab | refine Zai ?_ E01.out))); have n2_ := Zad.mk (Zat (g := g01) (o := .cells #[.int .i64 a0_0, .int .i64 a0_1, .slice (some ad102) l0_2.length c0_2] 52 (0, 0)) (by (with_reducible repeat (first | refine Zaf ?_ _ | refine Zaj ?_ | refine Zag ?_ _)); exact K01.out) hb); have n3_ := Zad.mk (Zal (by with_reducible repeat first | exact HB.out | apply Zac | apply Zaa | apply Zab | refine Zai ?_ E01.out) hb); clear HO_5; clear K01; clear HB; have HO_5 := n0_; have HO106 := n1_; have K01 := n2_; have HB := n3_; clear hb ho16; have hcz17_0 : w15.cell? ⟨g01, 0, none⟩ = some (.int .i64 a0_0) := (Zah K01.out 0).trans rfl; have hcz17_1 : w15.cell? ⟨g01, 1, none⟩ = some (.int .i64 a0_1) := (Zah K01.out 1).trans rfl; have hcz17_2 : w15.cell? ⟨g01, 2, none⟩ = some (.slice (some ad102) l0_2.length c0_2) := (Zah K01.out 2).trans rfl; have hfz17_0 := Zae K01.out 0; have hfz17_1 := Zae K01.out 1; have hfz17_2 := Zae K01.out 2) | ((with_reducible refine Zas (f := 154) rfl ?_); refine Zbg (some 36) rfl rfl Tryz.func154 (by kernel_rfl) rfl #[.agg #[.int .i64 a0_0, .int .i64 a0_1, .slice (some ad102) l0_2.length c0_2], .int .i64 x15_1, .int .i64 (Int.tmod (wrap64 (a1 + 2)) 4)] rfl (by (try simp only [List.map_toArray, List.map_cons, List.map_nil]); first | done | rfl | (simp only [List.length_drop, List.length_take]; rfl)) ?_; (with_reducible refine (Zcd.calls a0_0 a0_1 _ _ l0_2 x15_1 (Int.tmod (wrap64 (a1 + 2)) 4) t107 _ ?side1 ?side2 A14.out).mono ?_); (case side1 => repeat (first | exact (Kd.C_below HR0_2.out HB.out) | (with_reducible refine Kd.C_alloc ?_ _) | (with_reducible refine Kd.C_drewN ?_ _) | (with_reducible refine Kd.C_drew ?_))); (case side2 => exact HC0_2.out); rintro e w18 ⟨rfl, hb⟩; refine ⟨_, rfl, ?_⟩; have n0_ := Zad.mk (Kd.N_below (by (with_reducible repeat (first | apply Kd.N_alloc | apply Kd.N_drewN | apply Kd.N_drew)); exact HO_5.out) hb); have n1_ := Zad.mk (Kd.R_below (by (with_reducible repeat (first | apply Kd.R_alloc | apply Kd.R_drewN | apply Kd.R_drew)); exact HO106.out) hb); have n2_ := Zad.mk (Zat (g := g01) (o := .cells #[.int .i64 a0_0, .int .i64 a0_1, .slice (some ad102) l0_2.length c0_2] 52 (0, 0)) (by (with_reducible repeat (first | refine Zaf ?_ _ | refine Zaj ?_ | refine Zag ?_ _)); exact K01.out) hb); have n3_ := Zad.mk (Zal (by with_reducible repeat first | exact HB.out | apply Zac | apply Zaa | apply Zab | refine Zai ?_ E01.out) hb); clear HO_5; clear HO106; clear K01; clear HB; have HO_5 := n0_; have HO106 := n1_; have K01 := n2_; have HB := n3_))
         go_loopg [8, 9] kj7 (fun kq v8 v9 w' => ∃ (x8_3 : List Int) (x9_3 : Int), v9 = .int .i64 x9_3 ∧ Zad (Zam.l1 kq a1 x5_1 x8_3 x9_3 l0_2 (l0_2.length : Int) x15_1 a0_0 a0_1 l0_2 = some r) ∧ Zad (kq ≤ kj7) ∧ Zad (Kd.N (Kd.slice 3 (Kd.int .i64)) 31 w' w.heap.size (fun k_ => (w.heap.size ≤ k_) ∧ some k_ ≠ (v8 : Value).ownBlock ∧ k_ ≠ g01) u5 x5_1) ∧ Zad (Kd.R (Kd.int .i64) 3 w' w.heap.size (fun k_ => (w.heap.size ≤ k_)) v8 x8_3) ∧ Zad (w'.heap[g01]? = some (.cells #[.int .i64 a0_0, .int .i64 a0_1, (.slice (some ad102) l0_2.length c0_2)] 52 (0, 0))) ∧ Zad (Below w.heap.size w w'))
         case atStart => exact ⟨(y104), (t107), (by first | rfl | (simp; done) | (simp [*]; done)), H', ⟨Nat.le_refl _⟩, ⟨by (with_reducible repeat (first | apply Kd.N_alloc | apply Kd.N_drewN | apply Kd.N_drew)); exact Kd.N_mono HO_5.out (fun _ hk => ⟨hk.1.1, ⟨hk.2, hk.1.2⟩⟩)⟩, ⟨by (with_reducible repeat (first | apply Kd.R_alloc | apply Kd.R_drewN | apply Kd.R_drew)); exact Kd.R_mono HO106.out (fun _ hk => hk.1)⟩, ⟨by (with_reducible repeat (first | refine Zaf ?_ _ | refine Zaj ?_ | refine Zag ?_ _)); exact K01.out⟩, ⟨by with_reducible repeat first | exact HB.out | apply Zac | apply Zaa | apply Zab | refine Zai ?_ E01.out⟩⟩
         case round =>
          clear H'
          obtain ⟨x8_3, x9_3, rfl, HA, HK3, HO_5, HO_8, K01, HB⟩ := hrel
          cases gk with
          | zero => exact absurd HA.out (by simp [Zam.l1])
          | succ k3 =>
           have H := HA.out
           clear HA
           simp only [Zam.l1] at H
           by_cases c19 : x9_3 ≥ 0
           ·rw [if_pos c19] at H
            have c19b0 : decide (0 ≤ x9_3) = true := decide_eq_true c19
            clear c19
            by_cases c20 : x8_3.length < 17592186044416
            ·rw [if_pos c20] at H
             have LMc20 := Zad.mk c20
             clear c20
             obtain ⟨y108, hy108⟩ : ∃ y_ : List Int, y_ = (x8_3 ++ [x9_3]) := ⟨_, rfl⟩
             replace H : ((Zcd.f a0_0 a0_1 l0_2 x9_3 (Int.tmod (wrap64 (a1 + 2)) 4)).bind fun t111 => (Zam.l1 k3 a1 x5_1 y108 t111 l0_2 (l0_2.length : Int) x15_1 a0_0 a0_1 l0_2)) = some r := by first | (rw [hy108]; with_reducible exact H) | (have H2_ := (Option.bind_some _ _).symm.trans H; rw [hy108]; with_reducible exact H2_) | (have H2_ := (Option.bind_some _ _).symm.trans H; with_reducible exact H2_) | with_reducible exact H | (rw [hy108]; exact H) | exact H
             have Ny108 := Zad.mk hy108
             clear hy108
             replace H := Option.bind_eq_some_iff.mp H
             obtain ⟨t111, A210, H⟩ := H
             replace H : (Zam.l1 k3 a1 x5_1 y108 t111 l0_2 (l0_2.length : Int) x15_1 a0_0 a0_1 l0_2) = some r := H
             have A21 := Zad.mk A210
             clear A210
             have H' := Zad.mk H
             clear H
             go_wp2_with (first | ((with_reducible refine Zbe (b := .append) (xs := #[.tmp 45, .tmp 47]) rfl ?_); at_builtin; refine Kd.R_append (Kd.int .i64) (w0 := w) w.heap.size rfl (.tmp 45) (.tmp 47) 31 3 (.int .i64 0) 8 rfl Tryz.underlying31 info3 rfl (by decide) (by omega) u8 x8_3 x9_3 [.int .i64 x9_3] (fun k_ => (w.heap.size ≤ k_)) (fun _ => False) rfl rfl ?aP (fun _ hk => hk.elim) ?aF ?aO ?aB ?aS ?aL ?_; (case aP => exact rfl); (case aB => exact (by with_reducible repeat first | exact HB.out | apply Zac | apply Zaa | apply Zab | refine Zai ?_ E01.out)); (case aF => exact (fun k_ hk => (Nat.le_trans (Zak (by with_reducible repeat first | exact HB.out | apply Zac | apply Zaa | apply Zab | refine Zai ?_ E01.out)) hk))); (case aO => exact (by (with_reducible repeat (first | apply Kd.R_alloc | apply Kd.R_drewN | apply Kd.R_drew)); exact HO_8.out)); (case aS => exact (Zak (by with_reducible repeat first | exact HB.out | apply Zac | apply Zaa | apply Zab | refine Zai ?_ E01.out))); (case aL => have := LMc20.out; omega); intro v109 w22 ho hb hg hat; rw [← Ny108.out] at ho; have n0_ := Zad.mk (Kd.N_afterv (ok := (fun k_ => (w.heap.size ≤ k_) ∧ k_ ≠ g01)) (by (with_reducible repeat (first | apply Kd.N_alloc | apply Kd.N_drewN | apply Kd.N_drew)); exact Kd.N_mono HO_5.out (fun _ hk => ⟨⟨hk.1, hk.2.2⟩, hk.2.1⟩)) hg hat); have n1_ := Zad.mk (Zbh (g := g01) (o := .cells #[.int .i64 a0_0, .int .i64 a0_1, .slice (some ad102) l0_2.length c0_2] 52 (0, 0)) (by (with_reducible repeat (first | refine Zaf ?_ _ | refine Zaj ?_ | refine Zag ?_ _)); exact K01.out) hg (Kd.R_ne HO_8.out K01.out (by decide))); have n2_ := Zad.mk (hb); have n3_ := Zad.mk (ho); clear HO_5; clear K01; clear HB; clear HO_8; have HO_5 := n0_; have K01 := n1_; have HB := n2_; have HO110 := n3_; clear ho hb hg hat; have hcz23_0 : w22.cell? ⟨g01, 0, none⟩ = some (.int .i64 a0_0) := (Zah K01.out 0).trans rfl; have hcz23_1 : w22.cell? ⟨g01, 1, none⟩ = some (.int .i64 a0_1) := (Zah K01.out 1).trans rfl; have hcz23_2 : w22.cell? ⟨g01, 2, none⟩ = some (.slice (some ad102) l0_2.length c0_2) := (Zah K01.out 2).trans rfl; have hfz23_0 := Zae K01.out 0; have hfz23_1 := Zae K01.out 1; have hfz23_2 := Zae K01.out 2) | ((with_reducible refine Zas (f := 154) rfl ?_); refine Zbg (some 44) rfl rfl Tryz.func154 (by kernel_rfl) rfl #[.agg #[.int .i64 a0_0, .int .i64 a0_1, .slice (some ad102) l0_2.length c0_2], .int .i64 x9_3, .int .i64 (Int.tmod (wrap64 (a1 + 2)) 4)] rfl (by (try simp only [List.map_toArray, List.map_cons, List.map_nil]); first | done | rfl | (simp only [List.length_drop, List.length_take]; rfl)) ?_; (with_reducible refine (Zcd.calls a0_0 a0_1 _ _ l0_2 x9_3 (Int.tmod (wrap64 (a1 + 2)) 4) t111 _ ?side1 ?side2 A21.out).mono ?_); (case side1 => repeat (first | exact (Kd.C_below HR0_2.out HB.out) | (with_reducible refine Kd.C_alloc ?_ _) | (with_reducible refine Kd.C_drewN ?_ _) | (with_reducible refine Kd.C_drew ?_))); (case side2 => exact HC0_2.out); rintro e w24 ⟨rfl, hb⟩; refine ⟨_, rfl, ?_⟩; have n0_ := Zad.mk (Kd.N_below (by (with_reducible repeat (first | apply Kd.N_alloc | apply Kd.N_drewN | apply Kd.N_drew)); exact HO_5.out) hb); have n1_ := Zad.mk (Kd.R_below (by (with_reducible repeat (first | apply Kd.R_alloc | apply Kd.R_drewN | apply Kd.R_drew)); exact HO110.out) hb); have n2_ := Zad.mk (Zat (g := g01) (o := .cells #[.int .i64 a0_0, .int .i64 a0_1, .slice (some ad102) l0_2.length c0_2] 52 (0, 0)) (by (with_reducible repeat (first | refine Zaf ?_ _ | refine Zaj ?_ | refine Zag ?_ _)); exact K01.out) hb); have n3_ := Zad.mk (Zal (by with_reducible repeat first | exact HB.out | apply Zac | apply Zaa | apply Zab | refine Zai ?_ E01.out) hb); clear HO_5; clear HO110; clear K01; clear HB; have HO_5 := n0_; have HO110 := n1_; have K01 := n2_; have HB := n3_))
             go_roundg k3
             case measure => have := HK1.out; have := HJ7.out; have := HK3.out; omega
             case rel => exact ⟨(y108), (t111), (by first | rfl | (simp; done) | (simp [*]; done)), H', ⟨by have := HK1.out; have := HJ7.out; have := HK3.out; omega⟩, ⟨by (with_reducible repeat (first | apply Kd.N_alloc | apply Kd.N_drewN | apply Kd.N_drew)); exact Kd.N_mono HO_5.out (fun _ hk => ⟨hk.1.1, ⟨hk.2, hk.1.2⟩⟩)⟩, ⟨by (with_reducible repeat (first | apply Kd.R_alloc | apply Kd.R_drewN | apply Kd.R_drew)); exact HO110.out⟩, ⟨by (with_reducible repeat (first | refine Zaf ?_ _ | refine Zaj ?_ | refine Zag ?_ _)); exact K01.out⟩, ⟨by with_reducible repeat first | exact HB.out | apply Zac | apply Zaa | apply Zab | refine Zai ?_ E01.out⟩⟩
            ·rw [if_neg c20] at H
             exact absurd H (by simp)
           ·rw [if_neg c19] at H
            have c19b0 : decide (0 ≤ x9_3) = false := decide_eq_false c19
            clear c19
            have H' := Zad.mk H
            clear H
            go_wp2
            go_loopg [10] k3 (fun kq v10 w' => ∃ (x10_4 : Int), v10 = .int .i64 x10_4 ∧ Zad (Zam.l2 kq a1 x5_1 x8_3 x10_4 l0_2 (l0_2.length : Int) x15_1 a0_0 a0_1 l0_2 = some r) ∧ Zad (kq ≤ k3) ∧ Zad (Kd.N (Kd.slice 3 (Kd.int .i64)) 31 w' w.heap.size (fun k_ => (w.heap.size ≤ k_) ∧ some k_ ≠ (u8 : Value).ownBlock ∧ k_ ≠ g01) u5 x5_1) ∧ Zad (Kd.R (Kd.int .i64) 3 w' w.heap.size (fun k_ => (w.heap.size ≤ k_)) u8 x8_3) ∧ Zad (w'.heap[g01]? = some (.cells #[.int .i64 a0_0, .int .i64 a0_1, (.slice (some ad102) l0_2.length c0_2)] 52 (0, 0))) ∧ Zad (Below w.heap.size w w'))
            case atStart => exact ⟨(0), (by first | rfl | (simp; done) | (simp [*]; done)), H', ⟨Nat.le_refl _⟩, ⟨by (with_reducible repeat (first | apply Kd.N_alloc | apply Kd.N_drewN | apply Kd.N_drew)); exact HO_5.out⟩, ⟨by (with_reducible repeat (first | apply Kd.R_alloc | apply Kd.R_drewN | apply Kd.R_drew)); exact HO_8.out⟩, ⟨by (with_reducible repeat (first | refine Zaf ?_ _ | refine Zaj ?_ | refine Zag ?_ _)); exact K01.out⟩, ⟨by with_reducible repeat first | exact HB.out | apply Zac | apply Zaa | apply Zab | refine Zai ?_ E01.out⟩⟩
            case round =>
             clear H'
             obtain ⟨x10_4, rfl, HA, HK4, HO_5, HO_8, K01, HB⟩ := hrel
             cases gk with
             | zero => exact absurd HA.out (by simp [Zam.l2])
             | succ k4 =>
              have H := HA.out
              clear HA
              simp only [Zam.l2] at H
              by_cases c25 : x10_4 < (x5_1.length : Int)
              ·rw [if_pos c25] at H
               have c25b0 : decide (x10_4 < (x5_1.length : Int)) = true := decide_eq_true c25
               clear c25
               by_cases c26 : 0 ≤ x10_4
               ·rw [if_pos c26] at H
                have c26b0 : decide (0 ≤ x10_4) = true := decide_eq_true c26
                clear c26
                replace H := Option.bind_eq_some_iff.mp H
                obtain ⟨t113, A270, H⟩ := H
                replace H : ((Zbc.f k4 x8_3).bind fun t114 => (if t113 < t114 then (Zam.l2 k4 a1 x5_1 x8_3 (wrap64 (x10_4 + 1)) l0_2 (l0_2.length : Int) x15_1 a0_0 a0_1 l0_2) else ((some (([] : List (List Int)) : List (List Int))).bind fun y115 => (if x10_4 ≤ (x5_1.length : Int) then ((some (x5_1.take (x10_4 : Int).toNat : List (List Int))).bind fun y118 => (if y115.length + y118.length < 5864062014805 then ((some (y115 ++ y118 : List (List Int))).bind fun y123 => (if y123.length < 5864062014805 then ((some (y123 ++ [x8_3] : List (List Int))).bind fun y126 => ((some (x5_1.drop (x10_4 : Int).toNat : List (List Int))).bind fun y129 => (if y126.length + y129.length < 5864062014805 then (Zam.l0 k4 a1 (y126 ++ y129) l0_2 (l0_2.length : Int) (wrap64 (x15_1 + 1)) a0_0 a0_1 l0_2) else (none)))) else (none))) else (none))) else (none))))) = some r := H
                have A27 := Zad.mk A270
                clear A270
                replace H := Option.bind_eq_some_iff.mp H
                obtain ⟨t114, A280, H⟩ := H
                replace H : (if t113 < t114 then (Zam.l2 k4 a1 x5_1 x8_3 (wrap64 (x10_4 + 1)) l0_2 (l0_2.length : Int) x15_1 a0_0 a0_1 l0_2) else ((some (([] : List (List Int)) : List (List Int))).bind fun y115 => (if x10_4 ≤ (x5_1.length : Int) then ((some (x5_1.take (x10_4 : Int).toNat : List (List Int))).bind fun y118 => (if y115.length + y118.length < 5864062014805 then ((some (y115 ++ y118 : List (List Int))).bind fun y123 => (if y123.length < 5864062014805 then ((some (y123 ++ [x8_3] : List (List Int))).bind fun y126 => ((some (x5_1.drop (x10_4 : Int).toNat : List (List Int))).bind fun y129 => (if y126.length + y129.length < 5864062014805 then (Zam.l0 k4 a1 (y126 ++ y129) l0_2 (l0_2.length : Int) (wrap64 (x15_1 + 1)) a0_0 a0_1 l0_2) else (none)))) else (none))) else (none))) else (none)))) = some r := H
                have A28 := Zad.mk A280
                clear A280
                by_cases c29 : t113 < t114
                ·rw [if_pos c29] at H
                 have c29b0 : decide (t113 < t114) = true := decide_eq_true c29
                 clear c29
                 have H' := Zad.mk H
                 clear H
                 obtain ⟨Ao30, co30, eo30⟩ := Kd.N_slice HO_5.out
                 subst eo30
                 have p112 : 0 ≤ (x10_4 : Int) := of_decide_eq_true (by first | (with_reducible assumption) | assumption)
                 have q112 : x10_4 < (x5_1.length : Int) := of_decide_eq_true (by first | (with_reducible assumption) | assumption)
                 obtain ⟨ad112, A112_0, c112_0, e112, hx112_0, hl112_0, hi112_0⟩ := at_L3 (Kd.N_reads' HO_5.out).2.2 x10_4 p112 q112
                 cases e112
                 obtain ⟨ce112, hce112, hMe112, hcc112⟩ := Kd.N_get HO_5.out [] x10_4 p112 (by first | exact q112 | exact of_decide_eq_true (by first | (with_reducible assumption) | assumption) | (have e_ := (Kd.N_reads' HO_5.out).1; omega))
                 obtain ⟨ua112_0, uc112_0, rfl, ul112_0, ge112_0⟩ := Kd.FK_slice_open hMe112
                 have hv112_0 := hcc112 0 _ rfl
                 rw [Nat.add_zero, show ((Kd.slice 3 (Kd.int .i64))).sz = 1 from rfl, Nat.mul_one] at hv112_0
                 replace hv112_0 := Option.some.inj (hv112_0.symm.trans hx112_0)
                 injection hv112_0 with hva_ hvn_ hvc_
                 rw [hva_] at ge112_0
                 rw [hvc_] at ul112_0
                 have HL112_0 := Zad.mk (show Kd.V (Kd.int .i64) 3 _ w.heap.size _ _ (rd_L3 x5_1 x10_4) from Kd.V_mk ul112_0 ge112_0)
                 clear hva_ hvn_ hvc_ ge112_0 ul112_0
                 clear hcc112 hce112
                 have HR112_0 := Zad.mk hi112_0
                 have HC112_0 := Zad.mk hl112_0
                 clear hi112_0 hl112_0
                 replace p112 := eq_true p112
                 replace q112 := eq_true q112
                 go_wp2_with (first | (go_at_call 155; (with_reducible refine (Zbc.calls k4 _ _ (rd_L3 x5_1 x10_4) t113 _ ?side1 ?side2 A27.out).mono ?_); (case side1 => repeat (first | exact (by repeat (first | (with_reducible exact HR112_0.out) | (with_reducible refine Kd.C_alloc ?_ _) | (with_reducible refine Kd.C_drewN ?_ _) | (with_reducible refine Kd.C_drew ?_) | exact HR112_0.out)) | (with_reducible refine Kd.C_alloc ?_ _) | (with_reducible refine Kd.C_drewN ?_ _) | (with_reducible refine Kd.C_drew ?_))); (case side2 => exact HC112_0.out); rintro e w' ⟨rfl, ⟨nd, rfl⟩⟩; obtain ⟨Ao31, co31, eo31⟩ := Kd.R_slice HO_8.out; subst eo31) | (go_at_call 155; (with_reducible refine (Zbc.calls k4 _ _ x8_3 t114 _ ?side1 ?side2 A28.out).mono ?_); (case side1 => repeat (first | exact (Kd.R_reads' HO_8.out).2.2 | (with_reducible refine Kd.C_alloc ?_ _) | (with_reducible refine Kd.C_drewN ?_ _) | (with_reducible refine Kd.C_drew ?_))); (case side2 => exact (Kd.R_reads' HO_8.out).2.1); rintro e w' ⟨rfl, ⟨nd, rfl⟩⟩))
                 go_roundg k4
                 case measure => have := HK1.out; have := HJ7.out; have := HK3.out; have := HK4.out; omega
                 case rel => exact ⟨(wrap64 (x10_4 + 1)), (by first | rfl | (simp; done) | (simp [*]; done)), H', ⟨by have := HK1.out; have := HJ7.out; have := HK3.out; have := HK4.out; omega⟩, ⟨by (with_reducible repeat (first | apply Kd.N_alloc | apply Kd.N_drewN | apply Kd.N_drew)); exact HO_5.out⟩, ⟨by (with_reducible repeat (first | apply Kd.R_alloc | apply Kd.R_drewN | apply Kd.R_drew)); exact HO_8.out⟩, ⟨by (with_reducible repeat (first | refine Zaf ?_ _ | refine Zaj ?_ | refine Zag ?_ _)); exact K01.out⟩, ⟨by with_reducible repeat first | exact HB.out | apply Zac | apply Zaa | apply Zab | refine Zai ?_ E01.out⟩⟩
                ·rw [if_neg c29] at H
                 have c29b0 : decide (t113 < t114) = false := decide_eq_false c29
                 clear c29
                 obtain ⟨y115, hy115⟩ : ∃ y_ : List (List Int), y_ = (([] : List (List Int))) := ⟨_, rfl⟩
                 replace H : (if x10_4 ≤ (x5_1.length : Int) then ((some (x5_1.take (x10_4 : Int).toNat : List (List Int))).bind fun y118 => (if y115.length + y118.length < 5864062014805 then ((some (y115 ++ y118 : List (List Int))).bind fun y123 => (if y123.length < 5864062014805 then ((some (y123 ++ [x8_3] : List (List Int))).bind fun y126 => ((some (x5_1.drop (x10_4 : Int).toNat : List (List Int))).bind fun y129 => (if y126.length + y129.length < 5864062014805 then (Zam.l0 k4 a1 (y126 ++ y129) l0_2 (l0_2.length : Int) (wrap64 (x15_1 + 1)) a0_0 a0_1 l0_2) else (none)))) else (none))) else (none))) else (none)) = some r := by first | (rw [hy115]; with_reducible exact H) | (have H2_ := (Option.bind_some _ _).symm.trans H; rw [hy115]; with_reducible exact H2_) | (have H2_ := (Option.bind_some _ _).symm.trans H; with_reducible exact H2_) | with_reducible exact H | (rw [hy115]; exact H) | exact H
                 have Ny115 := Zad.mk hy115
                 clear hy115
                 have c32b0 := eq_true (of_decide_eq_true (by first | (with_reducible assumption) | assumption) : 0 ≤ x10_4)
                 by_cases c33 : x10_4 ≤ (x5_1.length : Int)
                 ·rw [if_pos c33] at H
                  have c33b0 := eq_true c33
                  have c33b1 : decide (x10_4 ≤ (x5_1.length : Int)) = true := decide_eq_true c33
                  clear c33
                  obtain ⟨y118, hy118⟩ : ∃ y_ : List (List Int), y_ = (x5_1.take (x10_4 : Int).toNat) := ⟨_, rfl⟩
                  replace H : (if y115.length + y118.length < 5864062014805 then ((some (y115 ++ y118 : List (List Int))).bind fun y123 => (if y123.length < 5864062014805 then ((some (y123 ++ [x8_3] : List (List Int))).bind fun y126 => ((some (x5_1.drop (x10_4 : Int).toNat : List (List Int))).bind fun y129 => (if y126.length + y129.length < 5864062014805 then (Zam.l0 k4 a1 (y126 ++ y129) l0_2 (l0_2.length : Int) (wrap64 (x15_1 + 1)) a0_0 a0_1 l0_2) else (none)))) else (none))) else (none)) = some r := by first | (rw [hy118]; with_reducible exact H) | (have H2_ := (Option.bind_some _ _).symm.trans H; rw [hy118]; with_reducible exact H2_) | (have H2_ := (Option.bind_some _ _).symm.trans H; with_reducible exact H2_) | with_reducible exact H | (rw [hy118]; exact H) | exact H
                  have Ny118 := Zad.mk hy118
                  clear hy118
                  by_cases c34 : y115.length + y118.length < 5864062014805
                  ·rw [if_pos c34] at H
                   have LMc34 := Zad.mk c34
                   clear c34
                   obtain ⟨y123, hy123⟩ : ∃ y_ : List (List Int), y_ = (y115 ++ y118) := ⟨_, rfl⟩
                   replace H : (if y123.length < 5864062014805 then ((some (y123 ++ [x8_3] : List (List Int))).bind fun y126 => ((some (x5_1.drop (x10_4 : Int).toNat : List (List Int))).bind fun y129 => (if y126.length + y129.length < 5864062014805 then (Zam.l0 k4 a1 (y126 ++ y129) l0_2 (l0_2.length : Int) (wrap64 (x15_1 + 1)) a0_0 a0_1 l0_2) else (none)))) else (none)) = some r := by first | (rw [hy123]; with_reducible exact H) | (have H2_ := (Option.bind_some _ _).symm.trans H; rw [hy123]; with_reducible exact H2_) | (have H2_ := (Option.bind_some _ _).symm.trans H; with_reducible exact H2_) | with_reducible exact H | (rw [hy123]; exact H) | exact H
                   have Ny123 := Zad.mk hy123
                   clear hy123
                   by_cases c35 : y123.length < 5864062014805
                   ·rw [if_pos c35] at H
                    have LMc35 := Zad.mk c35
                    clear c35
                    obtain ⟨y126, hy126⟩ : ∃ y_ : List (List Int), y_ = (y123 ++ [x8_3]) := ⟨_, rfl⟩
                    replace H : ((some (x5_1.drop (x10_4 : Int).toNat : List (List Int))).bind fun y129 => (if y126.length + y129.length < 5864062014805 then (Zam.l0 k4 a1 (y126 ++ y129) l0_2 (l0_2.length : Int) (wrap64 (x15_1 + 1)) a0_0 a0_1 l0_2) else (none))) = some r := by first | (rw [hy126]; with_reducible exact H) | (have H2_ := (Option.bind_some _ _).symm.trans H; rw [hy126]; with_reducible exact H2_) | (have H2_ := (Option.bind_some _ _).symm.trans H; with_reducible exact H2_) | with_reducible exact H | (rw [hy126]; exact H) | exact H
                    have Ny126 := Zad.mk hy126
                    clear hy126
                    have c36b0 := eq_true (of_decide_eq_true (by first | (with_reducible assumption) | assumption) : 0 ≤ x10_4)
                    have c37b0 := eq_true (of_decide_eq_true (by first | (with_reducible assumption) | assumption) : x10_4 ≤ (x5_1.length : Int))
                    obtain ⟨y129, hy129⟩ : ∃ y_ : List (List Int), y_ = (x5_1.drop (x10_4 : Int).toNat) := ⟨_, rfl⟩
                    replace H : (if y126.length + y129.length < 5864062014805 then (Zam.l0 k4 a1 (y126 ++ y129) l0_2 (l0_2.length : Int) (wrap64 (x15_1 + 1)) a0_0 a0_1 l0_2) else (none)) = some r := by first | (rw [hy129]; with_reducible exact H) | (have H2_ := (Option.bind_some _ _).symm.trans H; rw [hy129]; with_reducible exact H2_) | (have H2_ := (Option.bind_some _ _).symm.trans H; with_reducible exact H2_) | with_reducible exact H | (rw [hy129]; exact H) | exact H
                    have Ny129 := Zad.mk hy129
                    clear hy129
                    by_cases c38 : y126.length + y129.length < 5864062014805
                    ·rw [if_pos c38] at H
                     have LMc38 := Zad.mk c38
                     clear c38
                     obtain ⟨y134, hy134⟩ : ∃ y_ : List (List Int), y_ = (y126 ++ y129) := ⟨_, rfl⟩
                     replace H : (Zam.l0 k4 a1 y134 l0_2 (l0_2.length : Int) (wrap64 (x15_1 + 1)) a0_0 a0_1 l0_2) = some r := by first | (rw [hy134]; with_reducible exact H) | (have H2_ := (Option.bind_some _ _).symm.trans H; rw [hy134]; with_reducible exact H2_) | (have H2_ := (Option.bind_some _ _).symm.trans H; with_reducible exact H2_) | with_reducible exact H | (rw [hy134]; exact H) | exact H
                     have Ny134 := Zad.mk hy134
                     clear hy134
                     have H' := Zad.mk H
                     clear H
                     obtain ⟨Ao39, co39, eo39⟩ := Kd.N_slice HO_5.out
                     subst eo39
                     have p112 : 0 ≤ (x10_4 : Int) := of_decide_eq_true (by first | (with_reducible assumption) | assumption)
                     have q112 : x10_4 < (x5_1.length : Int) := of_decide_eq_true (by first | (with_reducible assumption) | assumption)
                     obtain ⟨ad112, A112_0, c112_0, e112, hx112_0, hl112_0, hi112_0⟩ := at_L3 (Kd.N_reads' HO_5.out).2.2 x10_4 p112 q112
                     cases e112
                     obtain ⟨ce112, hce112, hMe112, hcc112⟩ := Kd.N_get HO_5.out [] x10_4 p112 (by first | exact q112 | exact of_decide_eq_true (by first | (with_reducible assumption) | assumption) | (have e_ := (Kd.N_reads' HO_5.out).1; omega))
                     obtain ⟨ua112_0, uc112_0, rfl, ul112_0, ge112_0⟩ := Kd.FK_slice_open hMe112
                     have hv112_0 := hcc112 0 _ rfl
                     rw [Nat.add_zero, show ((Kd.slice 3 (Kd.int .i64))).sz = 1 from rfl, Nat.mul_one] at hv112_0
                     replace hv112_0 := Option.some.inj (hv112_0.symm.trans hx112_0)
                     injection hv112_0 with hva_ hvn_ hvc_
                     rw [hva_] at ge112_0
                     rw [hvc_] at ul112_0
                     have HL112_0 := Zad.mk (show Kd.V (Kd.int .i64) 3 _ w.heap.size _ _ (rd_L3 x5_1 x10_4) from Kd.V_mk ul112_0 ge112_0)
                     clear hva_ hvn_ hvc_ ge112_0 ul112_0
                     clear hcc112 hce112
                     have HR112_0 := Zad.mk hi112_0
                     have HC112_0 := Zad.mk hl112_0
                     clear hi112_0 hl112_0
                     replace p112 := eq_true p112
                     replace q112 := eq_true q112
                     go_wp2_with (first | (go_at_call 155; (with_reducible refine (Zbc.calls k4 _ _ (rd_L3 x5_1 x10_4) t113 _ ?side1 ?side2 A27.out).mono ?_); (case side1 => repeat (first | exact (by repeat (first | (with_reducible exact HR112_0.out) | (with_reducible refine Kd.C_alloc ?_ _) | (with_reducible refine Kd.C_drewN ?_ _) | (with_reducible refine Kd.C_drew ?_) | exact HR112_0.out)) | (with_reducible refine Kd.C_alloc ?_ _) | (with_reducible refine Kd.C_drewN ?_ _) | (with_reducible refine Kd.C_drew ?_))); (case side2 => exact HC112_0.out); rintro e w' ⟨rfl, ⟨nd, rfl⟩⟩; obtain ⟨Ao40, co40, eo40⟩ := Kd.R_slice HO_8.out; subst eo40) | (go_at_call 155; (with_reducible refine (Zbc.calls k4 _ _ x8_3 t114 _ ?side1 ?side2 A28.out).mono ?_); (case side1 => repeat (first | exact (Kd.R_reads' HO_8.out).2.2 | (with_reducible refine Kd.C_alloc ?_ _) | (with_reducible refine Kd.C_drewN ?_ _) | (with_reducible refine Kd.C_drew ?_))); (case side2 => exact (Kd.R_reads' HO_8.out).2.1); rintro e w' ⟨rfl, ⟨nd, rfl⟩⟩) | ((with_reducible refine Zaz (N := 65) rfl ?_); refine Kd.N_lit (Kd.slice 3 (Kd.int .i64)) _ 31 ?hg (N' := 65) ?hd (xs := ([] : List (List Int))) (inner := []) (ok := (fun k_ => (w.heap.size ≤ k_) ∧ some k_ ≠ (.slice (some ad112) x5_1.length co39 : Value).ownBlock ∧ some k_ ≠ (.slice Ao40 x8_3.length co40 : Value).ownBlock ∧ k_ ≠ g01)) (okp := (fun k_ => (w.heap.size ≤ k_) ∧ some k_ ≠ (.slice (some ad112) x5_1.length co39 : Value).ownBlock ∧ some k_ ≠ (.slice Ao40 x8_3.length co40 : Value).ownBlock ∧ k_ ≠ g01)) ?hr ?hp (fun _ hk => hk) ((show ∀ k_, wr.heap.size ≤ k_ → (fun k_ => (w.heap.size ≤ k_) ∧ some k_ ≠ (.slice (some ad112) x5_1.length co39 : Value).ownBlock ∧ some k_ ≠ (.slice Ao40 x8_3.length co40 : Value).ownBlock ∧ k_ ≠ g01) k_ from fun k_ hk => ⟨(Nat.le_trans (Zak (by with_reducible repeat first | exact HB.out | apply Zac | apply Zaa | apply Zab | refine Zai ?_ E01.out)) hk), Kd.fresh' (Kd.N_lt (by (with_reducible repeat (first | apply Kd.N_alloc | apply Kd.N_drewN | apply Kd.N_drew)); exact HO_5.out)) k_ hk, Kd.fresh' (Kd.R_lt (by (with_reducible repeat (first | apply Kd.R_alloc | apply Kd.R_drewN | apply Kd.R_drew)); exact HO_8.out)) k_ hk, Kd.freshB (g := g01) (o := .cells #[.int .i64 a0_0, .int .i64 a0_1, .slice (some ad102) l0_2.length c0_2] 52 (0, 0)) (by (with_reducible repeat (first | refine Zaf ?_ _ | refine Zaj ?_ | refine Zag ?_ _)); exact K01.out) k_ hk⟩) _ (Nat.le_refl _)) (Below.refl _ _) (Nat.le_refl _) (by simp) ?_; (case hd => rfl); (case hg => rfl); (case hr => first | (go_simp; done) | (go_simp; rfl)); (case hp => exact (Reps.none _ _)); intro v116 w41 ho42 hb hg_ hnew_; clear hg_ hnew_; (first | rw [← Ny115.out] at ho42 | (simp only [Int.reduceToNat] at ho42; rw [← Ny115.out] at ho42)); have n0_ := Zad.mk (Kd.N_elder' (by (with_reducible repeat (first | apply Kd.N_alloc | apply Kd.N_drewN | apply Kd.N_drew)); exact HO_5.out) (Kd.N_base ho42) hb); have n1_ := Zad.mk (Kd.R_below (by (with_reducible repeat (first | apply Kd.R_alloc | apply Kd.R_drewN | apply Kd.R_drew)); exact HO_8.out) hb); have n2_ := Zad.mk (Kd.V_elder' (by (with_reducible repeat (first | apply Kd.V_alloc | apply Kd.V_drewN | apply Kd.V_drew)); exact HL112_0.out) (Kd.N_base ho42) hb); have n3_ := Zad.mk (Kd.N_lower ho42 (Zak (by with_reducible repeat first | exact HB.out | apply Zac | apply Zaa | apply Zab | refine Zai ?_ E01.out))); have n4_ := Zad.mk (Zat (g := g01) (o := .cells #[.int .i64 a0_0, .int .i64 a0_1, .slice (some ad102) l0_2.length c0_2] 52 (0, 0)) (by (with_reducible repeat (first | refine Zaf ?_ _ | refine Zaj ?_ | refine Zag ?_ _)); exact K01.out) hb); have n5_ := Zad.mk (Kd.C_below (by repeat (first | (with_reducible exact HR112_0.out) | (with_reducible refine Kd.C_alloc ?_ _) | (with_reducible refine Kd.C_drewN ?_ _) | (with_reducible refine Kd.C_drew ?_) | exact HR112_0.out)) hb); have n6_ := Zad.mk (Zal (by with_reducible repeat first | exact HB.out | apply Zac | apply Zaa | apply Zab | refine Zai ?_ E01.out) hb); clear HO_5; clear HO_8; clear HL112_0; clear K01; clear HR112_0; clear HB; have HO_5 := n0_; have HO_8 := n1_; have HL112_0 := n2_; have HO117 := n3_; have K01 := n4_; have HR112_0 := n5_; have HB := n6_; clear hb ho42; have q43 : (x10_4 : Int) ≤ ((x5_1.length : Int) : Int) := of_decide_eq_true (by first | (with_reducible assumption) | assumption); obtain ⟨i043, hi043, _, hsz43, _⟩ := info_parts Zdk; have hroom43 : x5_1.length ≤ co39 := (Kd.N_reads' HO_5.out).2.1; have hC43 : Kd.F (Kd.slice 3 (Kd.int .i64)) _ _ (some ad112) x5_1.length x5_1 := (Kd.V_at (base := w.heap.size) (Kd.N_V HO_5.out)).2.2; have hcut43 := Zg5 (P := Tryz.prog) 56 31 .i64 Tryz.underlying56 hi043 (some ad112) x5_1.length co39 x10_4 (of_decide_eq_true (by first | (with_reducible assumption) | assumption)) q43 hroom43; have hr43 := Kd.F_take (m := (x10_4 : Int).toNat) hC43 (by omega); have hy43 : y118.length = (x10_4 : Int).toNat := (by rw [Ny118.out, List.length_take]; omega); rw [← Ny118.out] at hr43; rw [← hy43] at hcut43; have HO122 := Zad.mk (show Kd.V (Kd.slice 3 (Kd.int .i64)) 31 _ w.heap.size _ (.slice (some ad112) y118.length co39) y118 from Kd.V_mk (by omega) hr43); have HC122 := Zad.mk (show y118.length ≤ co39 from by omega); clear hr43 hC43 hroom43 hi043 hsz43; have KY43 := Zad.mk hy43; clear hy43; replace q43 := eq_true q43) | ((with_reducible refine Zbe (b := .append) (xs := #[.tmp 65, .tmp 68]) rfl ?_); at_builtin; refine Kd.N_append_rows (Kd.slice 3 (Kd.int .i64)) (w0 := w) w.heap.size rfl (.tmp 65) (.tmp 68) 56 31 (.slice none 0 0) 24 rfl Tryz.underlying56 Zdk rfl (by decide) (by omega) v116 y115 y118 _ _ _ (fun k_ => (w.heap.size ≤ k_) ∧ some k_ ≠ (.slice Ao40 x8_3.length co40 : Value).ownBlock ∧ k_ ≠ g01) (fun k_ => ((fun k_ => (w.heap.size ≤ k_) ∧ some k_ ≠ (.slice Ao40 x8_3.length co40 : Value).ownBlock ∧ k_ ≠ g01)) k_ ∧ some k_ ≠ (v116 : Value).ownBlock) rfl rfl ?aO ?aR (fun _ hk => hk) ?aF ?aB ?aS ?aL ?_; (case aR => exact (by skip; exact Kd.V_F (Kd.V_mono (ok' := (fun k_ => ((fun k_ => (w.heap.size ≤ k_) ∧ some k_ ≠ (.slice Ao40 x8_3.length co40 : Value).ownBlock ∧ k_ ≠ g01)) k_ ∧ some k_ ≠ (v116 : Value).ownBlock)) (HO122.out) (fun k_ hk => ⟨⟨hk.1.1, ⟨hk.1.2.1, hk.1.2.2⟩⟩, hk.2⟩)))); (case aB => exact (by with_reducible repeat first | exact HB.out | apply Zac | apply Zaa | apply Zab | refine Zai ?_ E01.out)); (case aF => exact (fun k_ hk => ⟨(Nat.le_trans (Zak (by with_reducible repeat first | exact HB.out | apply Zac | apply Zaa | apply Zab | refine Zai ?_ E01.out)) hk), Kd.fresh' (Kd.R_lt (by (with_reducible repeat (first | apply Kd.R_alloc | apply Kd.R_drewN | apply Kd.R_drew)); exact HO_8.out)) k_ hk, Kd.freshB (g := g01) (o := .cells #[.int .i64 a0_0, .int .i64 a0_1, .slice (some ad102) l0_2.length c0_2] 52 (0, 0)) (by (with_reducible repeat (first | refine Zaf ?_ _ | refine Zaj ?_ | refine Zag ?_ _)); exact K01.out) k_ hk⟩)); (case aO => exact (by (with_reducible repeat (first | apply Kd.N_alloc | apply Kd.N_drewN | apply Kd.N_drew)); exact Kd.N_mono HO117.out (fun _ hk => ⟨hk.1, ⟨hk.2.2.1, hk.2.2.2⟩⟩))); (case aS => exact (Zak (by with_reducible repeat first | exact HB.out | apply Zac | apply Zaa | apply Zab | refine Zai ?_ E01.out))); (case aL => have := LMc34.out; omega); intro v124 w44 ho hb hg hat; rw [← Ny123.out] at ho; have n0_ := Zad.mk (Kd.N_afterv (ok := (fun k_ => (w.heap.size ≤ k_) ∧ some k_ ≠ (.slice Ao40 x8_3.length co40 : Value).ownBlock ∧ k_ ≠ g01)) (by (with_reducible repeat (first | apply Kd.N_alloc | apply Kd.N_drewN | apply Kd.N_drew)); exact HO_5.out) hg hat); have n1_ := Zad.mk (Kd.R_over' (by (with_reducible repeat (first | apply Kd.R_alloc | apply Kd.R_drewN | apply Kd.R_drew)); exact HO_8.out) (Kd.N_typed (by (with_reducible repeat (first | apply Kd.N_alloc | apply Kd.N_drewN | apply Kd.N_drew)); exact HO117.out)) (by decide) hg); have n2_ := Zad.mk (Zbh (g := g01) (o := .cells #[.int .i64 a0_0, .int .i64 a0_1, .slice (some ad102) l0_2.length c0_2] 52 (0, 0)) (by (with_reducible repeat (first | refine Zaf ?_ _ | refine Zaj ?_ | refine Zag ?_ _)); exact K01.out) hg (Kd.N_ne HO117.out K01.out (by decide))); have n3_ := Zad.mk (Kd.V_afterv (ok := (fun k_ => (w.heap.size ≤ k_) ∧ some k_ ≠ (.slice (some ad112) x5_1.length co39 : Value).ownBlock ∧ some k_ ≠ (.slice Ao40 x8_3.length co40 : Value).ownBlock ∧ k_ ≠ g01)) (by (with_reducible repeat (first | apply Kd.V_alloc | apply Kd.V_drewN | apply Kd.V_drew)); exact Kd.V_mono HL112_0.out (fun _ hk => ⟨⟨hk.1.1.1, ⟨hk.1.2, ⟨hk.1.1.2.1, hk.1.1.2.2⟩⟩⟩, hk.2⟩)) hg hat); have n4_ := Zad.mk (Kd.V_afterv (ok := (fun k_ => (w.heap.size ≤ k_) ∧ some k_ ≠ (.slice Ao40 x8_3.length co40 : Value).ownBlock ∧ k_ ≠ g01)) (by (with_reducible repeat (first | apply Kd.V_alloc | apply Kd.V_drewN | apply Kd.V_drew)); exact HO122.out) hg hat); have n5_ := Zad.mk (hb); have n6_ := Zad.mk (ho); clear HO_5; clear HO_8; clear K01; clear HL112_0; clear HO122; clear HB; clear HO117; have HO_5 := n0_; have HO_8 := n1_; have K01 := n2_; have HL112_0 := n3_; have HO122 := n4_; have HB := n5_; have HO125 := n6_; clear ho hb hg hat) | ((with_reducible refine Zbe (b := .append) (xs := #[.tmp 69, .tmp 71]) rfl ?_); at_builtin; refine Kd.N_append (Kd.slice 3 (Kd.int .i64)) (w0 := w) w.heap.size rfl (.tmp 69) (.tmp 71) 56 31 (.slice none 0 0) 24 rfl Tryz.underlying56 Zdk rfl (by decide) (by omega) v124 y123 x8_3 [.slice Ao40 x8_3.length co40] (fun k_ => (w.heap.size ≤ k_) ∧ k_ ≠ g01) (fun k_ => ((fun k_ => (w.heap.size ≤ k_) ∧ k_ ≠ g01)) k_ ∧ some k_ ≠ (v124 : Value).ownBlock) rfl rfl ?aP (fun _ hk => hk) ?aF ?aO ?aB ?aS ?aL ?_; (case aP => exact (Kd.FK_slice_mk (Kd.R_reads' (Kd.R_mono (ok' := (fun k_ => ((fun k_ => (w.heap.size ≤ k_) ∧ k_ ≠ g01)) k_ ∧ some k_ ≠ (v124 : Value).ownBlock)) (Kd.R_types (Kd.R_apart' (HO_8.out) (Kd.N_typed HO125.out) (by decide)) K01.out (by decide)) (fun k_ hk => ⟨⟨hk.1.1, hk.2⟩, hk.1.2⟩))).2.1 (Kd.R_F (Kd.R_mono (ok' := (fun k_ => ((fun k_ => (w.heap.size ≤ k_) ∧ k_ ≠ g01)) k_ ∧ some k_ ≠ (v124 : Value).ownBlock)) (Kd.R_types (Kd.R_apart' (HO_8.out) (Kd.N_typed HO125.out) (by decide)) K01.out (by decide)) (fun k_ hk => ⟨⟨hk.1.1, hk.2⟩, hk.1.2⟩))))); (case aB => exact (by with_reducible repeat first | exact HB.out | apply Zac | apply Zaa | apply Zab | refine Zai ?_ E01.out)); (case aF => exact (fun k_ hk => ⟨(Nat.le_trans (Zak (by with_reducible repeat first | exact HB.out | apply Zac | apply Zaa | apply Zab | refine Zai ?_ E01.out)) hk), Kd.freshB (g := g01) (o := .cells #[.int .i64 a0_0, .int .i64 a0_1, .slice (some ad102) l0_2.length c0_2] 52 (0, 0)) (by (with_reducible repeat (first | refine Zaf ?_ _ | refine Zaj ?_ | refine Zag ?_ _)); exact K01.out) k_ hk⟩)); (case aO => exact (by (with_reducible repeat (first | apply Kd.N_alloc | apply Kd.N_drewN | apply Kd.N_drew)); exact Kd.N_mono HO125.out (fun _ hk => ⟨hk.1, hk.2.2⟩))); (case aS => exact (Zak (by with_reducible repeat first | exact HB.out | apply Zac | apply Zaa | apply Zab | refine Zai ?_ E01.out))); (case aL => have := LMc35.out; omega); intro v127 w45 ho hb hg hat; rw [← Ny126.out] at ho; have n0_ := Zad.mk (Kd.N_afterv (ok := (fun k_ => (w.heap.size ≤ k_) ∧ some k_ ≠ (.slice Ao40 x8_3.length co40 : Value).ownBlock ∧ k_ ≠ g01)) (by (with_reducible repeat (first | apply Kd.N_alloc | apply Kd.N_drewN | apply Kd.N_drew)); exact HO_5.out) hg hat); have n1_ := Zad.mk (Zbh (g := g01) (o := .cells #[.int .i64 a0_0, .int .i64 a0_1, .slice (some ad102) l0_2.length c0_2] 52 (0, 0)) (by (with_reducible repeat (first | refine Zaf ?_ _ | refine Zaj ?_ | refine Zag ?_ _)); exact K01.out) hg (Kd.N_ne HO125.out K01.out (by decide))); have n2_ := Zad.mk (Kd.V_afterv (ok := (fun k_ => (w.heap.size ≤ k_) ∧ some k_ ≠ (.slice (some ad112) x5_1.length co39 : Value).ownBlock ∧ some k_ ≠ (.slice Ao40 x8_3.length co40 : Value).ownBlock ∧ k_ ≠ g01)) (by (with_reducible repeat (first | apply Kd.V_alloc | apply Kd.V_drewN | apply Kd.V_drew)); exact HL112_0.out) hg hat); have n3_ := Zad.mk (Kd.V_afterv (ok := (fun k_ => (w.heap.size ≤ k_) ∧ some k_ ≠ (.slice Ao40 x8_3.length co40 : Value).ownBlock ∧ k_ ≠ g01)) (by (with_reducible repeat (first | apply Kd.V_alloc | apply Kd.V_drewN | apply Kd.V_drew)); exact HO122.out) hg hat); have n4_ := Zad.mk (hb); have n5_ := Zad.mk (ho); clear HO_5; clear K01; clear HL112_0; clear HO122; clear HB; clear HO125; clear HO_8; have HO_5 := n0_; have K01 := n1_; have HL112_0 := n2_; have HO122 := n3_; have HB := n4_; have HO128 := n5_; clear ho hb hg hat; have q46 : (x10_4 : Int) ≤ ((x5_1.length : Int) : Int) := of_decide_eq_true (by first | (with_reducible assumption) | assumption); obtain ⟨i046, hi046, _, hsz46, _⟩ := info_parts Zdk; have hroom46 : x5_1.length ≤ co39 := (Kd.N_reads' HO_5.out).2.1; have hC46 : Kd.F (Kd.slice 3 (Kd.int .i64)) _ _ (some ad112) x5_1.length x5_1 := (Kd.V_at (base := w.heap.size) (Kd.N_V HO_5.out)).2.2; have q046 : (0 : Int) ≤ (x10_4 : Int) := of_decide_eq_true (by first | (with_reducible assumption) | assumption); have hcut46 := Zkc (P := Tryz.prog) 56 31 .i64 Tryz.underlying56 hi046 1 hsz46 (some ad112) x5_1.length co39 x10_4 q046 q46; have hr46 := Kd.F_cut (m := (x10_4 : Int).toNat) (c := co39) hC46 (by omega) hroom46; obtain ⟨A46, hA46⟩ : ∃ A1, A1 = (if co39 = (x10_4 : Int).toNat then (some ad112) else ((some ad112) : Option Addr).map (·.add ((x10_4 : Int).toNat * 1))) := ⟨_, rfl⟩; obtain ⟨c46, hc46⟩ : ∃ c1, c1 = co39 - (x10_4 : Int).toNat := ⟨_, rfl⟩; have hy46 : y129.length = x5_1.length - (x10_4 : Int).toNat := (by rw [Ny129.out, List.length_drop] <;> omega); rw [show (x5_1).drop (x10_4 : Int).toNat = y129 from Ny129.out.symm] at hr46; replace hr46 : Kd.F (Kd.slice 3 (Kd.int .i64)) _ _ A46 y129.length y129 := (by rw [hA46]; exact hr46); rw [← hy46, ← hA46, ← hc46] at hcut46; have HO133 := Zad.mk (show Kd.V (Kd.slice 3 (Kd.int .i64)) 31 _ w.heap.size _ (.slice A46 y129.length c46) y129 from Kd.V_mk (by rw [hy46, hc46]; exact Nat.sub_le_sub_right hroom46 _) hr46); have HC133 := Zad.mk (show y129.length ≤ c46 from by rw [hy46, hc46]; exact Nat.sub_le_sub_right hroom46 _); clear hr46 hC46 hroom46 hi046 hsz46 hc46; have KY46 := Zad.mk hy46; have KA46 := Zad.mk hA46; clear hy46 hA46; replace q46 := eq_true q46) | ((with_reducible refine Zbe (b := .append) (xs := #[.tmp 73, .tmp 76]) rfl ?_); at_builtin; refine Kd.N_append_rows (Kd.slice 3 (Kd.int .i64)) (w0 := w) w.heap.size rfl (.tmp 73) (.tmp 76) 56 31 (.slice none 0 0) 24 rfl Tryz.underlying56 Zdk rfl (by decide) (by omega) v127 y126 y129 _ _ _ (fun k_ => (w.heap.size ≤ k_) ∧ k_ ≠ g01) (fun k_ => ((fun k_ => (w.heap.size ≤ k_) ∧ k_ ≠ g01)) k_ ∧ some k_ ≠ (v127 : Value).ownBlock) rfl rfl ?aO ?aR (fun _ hk => hk) ?aF ?aB ?aS ?aL ?_; (case aR => exact (by skip; exact Kd.V_F (Kd.V_mono (ok' := (fun k_ => ((fun k_ => (w.heap.size ≤ k_) ∧ k_ ≠ g01)) k_ ∧ some k_ ≠ (v127 : Value).ownBlock)) (HO133.out) (fun k_ hk => ⟨⟨hk.1.1, hk.1.2.2⟩, hk.2⟩)))); (case aB => exact (by with_reducible repeat first | exact HB.out | apply Zac | apply Zaa | apply Zab | refine Zai ?_ E01.out)); (case aF => exact (fun k_ hk => ⟨(Nat.le_trans (Zak (by with_reducible repeat first | exact HB.out | apply Zac | apply Zaa | apply Zab | refine Zai ?_ E01.out)) hk), Kd.freshB (g := g01) (o := .cells #[.int .i64 a0_0, .int .i64 a0_1, .slice (some ad102) l0_2.length c0_2] 52 (0, 0)) (by (with_reducible repeat (first | refine Zaf ?_ _ | refine Zaj ?_ | refine Zag ?_ _)); exact K01.out) k_ hk⟩)); (case aO => exact (by (with_reducible repeat (first | apply Kd.N_alloc | apply Kd.N_drewN | apply Kd.N_drew)); exact HO128.out)); (case aS => exact (Zak (by with_reducible repeat first | exact HB.out | apply Zac | apply Zaa | apply Zab | refine Zai ?_ E01.out))); (case aL => have := LMc38.out; omega); intro v135 w47 ho hb hg hat; rw [← Ny134.out] at ho; have n0_ := Zad.mk (Kd.N_afterv (ok := (fun k_ => (w.heap.size ≤ k_) ∧ k_ ≠ g01)) (by (with_reducible repeat (first | apply Kd.N_alloc | apply Kd.N_drewN | apply Kd.N_drew)); exact Kd.N_mono HO_5.out (fun _ hk => ⟨⟨hk.1.1, hk.1.2.2⟩, hk.2⟩)) hg hat); have n1_ := Zad.mk (Zbh (g := g01) (o := .cells #[.int .i64 a0_0, .int .i64 a0_1, .slice (some ad102) l0_2.length c0_2] 52 (0, 0)) (by (with_reducible repeat (first | refine Zaf ?_ _ | refine Zaj ?_ | refine Zag ?_ _)); exact K01.out) hg (Kd.N_ne HO128.out K01.out (by decide))); have n2_ := Zad.mk (Kd.V_afterv (ok := (fun k_ => (w.heap.size ≤ k_) ∧ some k_ ≠ (.slice (some ad112) x5_1.length co39 : Value).ownBlock ∧ k_ ≠ g01)) (by (with_reducible repeat (first | apply Kd.V_alloc | apply Kd.V_drewN | apply Kd.V_drew)); exact Kd.V_mono HL112_0.out (fun _ hk => ⟨⟨hk.1.1, ⟨hk.1.2.1, hk.1.2.2.2⟩⟩, hk.2⟩)) hg hat); have n3_ := Zad.mk (Kd.V_afterv (ok := (fun k_ => (w.heap.size ≤ k_) ∧ k_ ≠ g01)) (by (with_reducible repeat (first | apply Kd.V_alloc | apply Kd.V_drewN | apply Kd.V_drew)); exact Kd.V_mono HO122.out (fun _ hk => ⟨⟨hk.1.1, hk.1.2.2⟩, hk.2⟩)) hg hat); have n4_ := Zad.mk (Kd.V_afterv (ok := (fun k_ => (w.heap.size ≤ k_) ∧ k_ ≠ g01)) (by (with_reducible repeat (first | apply Kd.V_alloc | apply Kd.V_drewN | apply Kd.V_drew)); exact Kd.V_mono HO133.out (fun _ hk => ⟨⟨hk.1.1, hk.1.2.2⟩, hk.2⟩)) hg hat); have n5_ := Zad.mk (hb); have n6_ := Zad.mk (ho); clear HO_5; clear K01; clear HL112_0; clear HO122; clear HO133; clear HB; clear HO128; have HO_5 := n0_; have K01 := n1_; have HL112_0 := n2_; have HO122 := n3_; have HO133 := n4_; have HB := n5_; have HO136 := n6_; clear ho hb hg hat))
                     go_roundg k4
                     case measure => have := HK1.out; have := HJ7.out; have := HK3.out; have := HK4.out; omega
                     case rel => exact ⟨(y134), (wrap64 (x15_1 + 1)), (by first | rfl | (simp; done) | (simp [*]; done)), H', ⟨by have := HK1.out; have := HJ7.out; have := HK3.out; have := HK4.out; omega⟩, ⟨by (with_reducible repeat (first | apply Kd.N_alloc | apply Kd.N_drewN | apply Kd.N_drew)); exact HO136.out⟩, ⟨by (with_reducible repeat (first | refine Zaf ?_ _ | refine Zaj ?_ | refine Zag ?_ _)); exact K01.out⟩, ⟨by with_reducible repeat first | exact HB.out | apply Zac | apply Zaa | apply Zab | refine Zai ?_ E01.out⟩⟩
                    ·rw [if_neg c38] at H
                     exact absurd H (by simp)
                   ·rw [if_neg c35] at H
                    exact absurd H (by simp)
                  ·rw [if_neg c34] at H
                   exact absurd H (by simp)
                 ·rw [if_neg c33] at H
                  exact absurd H (by simp)
               ·rw [if_neg c26] at H
                exact absurd H (by simp)
              ·rw [if_neg c25] at H
               have c25b0 : decide (x10_4 < (x5_1.length : Int)) = false := decide_eq_false c25
               clear c25
               obtain ⟨y137, hy137⟩ : ∃ y_ : List (List Int), y_ = (([] : List (List Int))) := ⟨_, rfl⟩
               replace H : (if 0 ≤ x10_4 then (if x10_4 ≤ (x5_1.length : Int) then ((some (x5_1.take (x10_4 : Int).toNat : List (List Int))).bind fun y140 => (if y137.length + y140.length < 5864062014805 then ((some (y137 ++ y140 : List (List Int))).bind fun y145 => (if y145.length < 5864062014805 then ((some (y145 ++ [x8_3] : List (List Int))).bind fun y148 => ((some (x5_1.drop (x10_4 : Int).toNat : List (List Int))).bind fun y151 => (if y148.length + y151.length < 5864062014805 then (Zam.l0 k4 a1 (y148 ++ y151) l0_2 (l0_2.length : Int) (wrap64 (x15_1 + 1)) a0_0 a0_1 l0_2) else (none)))) else (none))) else (none))) else (none)) else (none)) = some r := by first | (rw [hy137]; with_reducible exact H) | (have H2_ := (Option.bind_some _ _).symm.trans H; rw [hy137]; with_reducible exact H2_) | (have H2_ := (Option.bind_some _ _).symm.trans H; with_reducible exact H2_) | with_reducible exact H | (rw [hy137]; exact H) | exact H
               have Ny137 := Zad.mk hy137
               clear hy137
               by_cases c48 : 0 ≤ x10_4
               ·rw [if_pos c48] at H
                have c48b0 := eq_true c48
                have c48b1 : decide (0 ≤ x10_4) = true := decide_eq_true c48
                clear c48
                by_cases c49 : x10_4 ≤ (x5_1.length : Int)
                ·rw [if_pos c49] at H
                 have c49b0 := eq_true c49
                 have c49b1 : decide (x10_4 ≤ (x5_1.length : Int)) = true := decide_eq_true c49
                 clear c49
                 obtain ⟨y140, hy140⟩ : ∃ y_ : List (List Int), y_ = (x5_1.take (x10_4 : Int).toNat) := ⟨_, rfl⟩
                 replace H : (if y137.length + y140.length < 5864062014805 then ((some (y137 ++ y140 : List (List Int))).bind fun y145 => (if y145.length < 5864062014805 then ((some (y145 ++ [x8_3] : List (List Int))).bind fun y148 => ((some (x5_1.drop (x10_4 : Int).toNat : List (List Int))).bind fun y151 => (if y148.length + y151.length < 5864062014805 then (Zam.l0 k4 a1 (y148 ++ y151) l0_2 (l0_2.length : Int) (wrap64 (x15_1 + 1)) a0_0 a0_1 l0_2) else (none)))) else (none))) else (none)) = some r := by first | (rw [hy140]; with_reducible exact H) | (have H2_ := (Option.bind_some _ _).symm.trans H; rw [hy140]; with_reducible exact H2_) | (have H2_ := (Option.bind_some _ _).symm.trans H; with_reducible exact H2_) | with_reducible exact H | (rw [hy140]; exact H) | exact H
                 have Ny140 := Zad.mk hy140
                 clear hy140
                 by_cases c50 : y137.length + y140.length < 5864062014805
                 ·rw [if_pos c50] at H
                  have LMc50 := Zad.mk c50
                  clear c50
                  obtain ⟨y145, hy145⟩ : ∃ y_ : List (List Int), y_ = (y137 ++ y140) := ⟨_, rfl⟩
                  replace H : (if y145.length < 5864062014805 then ((some (y145 ++ [x8_3] : List (List Int))).bind fun y148 => ((some (x5_1.drop (x10_4 : Int).toNat : List (List Int))).bind fun y151 => (if y148.length + y151.length < 5864062014805 then (Zam.l0 k4 a1 (y148 ++ y151) l0_2 (l0_2.length : Int) (wrap64 (x15_1 + 1)) a0_0 a0_1 l0_2) else (none)))) else (none)) = some r := by first | (rw [hy145]; with_reducible exact H) | (have H2_ := (Option.bind_some _ _).symm.trans H; rw [hy145]; with_reducible exact H2_) | (have H2_ := (Option.bind_some _ _).symm.trans H; with_reducible exact H2_) | with_reducible exact H | (rw [hy145]; exact H) | exact H
                  have Ny145 := Zad.mk hy145
                  clear hy145
                  by_cases c51 : y145.length < 5864062014805
                  ·rw [if_pos c51] at H
                   have LMc51 := Zad.mk c51
                   clear c51
                   obtain ⟨y148, hy148⟩ : ∃ y_ : List (List Int), y_ = (y145 ++ [x8_3]) := ⟨_, rfl⟩
                   replace H : ((some (x5_1.drop (x10_4 : Int).toNat : List (List Int))).bind fun y151 => (if y148.length + y151.length < 5864062014805 then (Zam.l0 k4 a1 (y148 ++ y151) l0_2 (l0_2.length : Int) (wrap64 (x15_1 + 1)) a0_0 a0_1 l0_2) else (none))) = some r := by first | (rw [hy148]; with_reducible exact H) | (have H2_ := (Option.bind_some _ _).symm.trans H; rw [hy148]; with_reducible exact H2_) | (have H2_ := (Option.bind_some _ _).symm.trans H; with_reducible exact H2_) | with_reducible exact H | (rw [hy148]; exact H) | exact H
                   have Ny148 := Zad.mk hy148
                   clear hy148
                   have c52b0 := eq_true (of_decide_eq_true (by first | (with_reducible assumption) | assumption) : 0 ≤ x10_4)
                   have c53b0 := eq_true (of_decide_eq_true (by first | (with_reducible assumption) | assumption) : x10_4 ≤ (x5_1.length : Int))
                   obtain ⟨y151, hy151⟩ : ∃ y_ : List (List Int), y_ = (x5_1.drop (x10_4 : Int).toNat) := ⟨_, rfl⟩
                   replace H : (if y148.length + y151.length < 5864062014805 then (Zam.l0 k4 a1 (y148 ++ y151) l0_2 (l0_2.length : Int) (wrap64 (x15_1 + 1)) a0_0 a0_1 l0_2) else (none)) = some r := by first | (rw [hy151]; with_reducible exact H) | (have H2_ := (Option.bind_some _ _).symm.trans H; rw [hy151]; with_reducible exact H2_) | (have H2_ := (Option.bind_some _ _).symm.trans H; with_reducible exact H2_) | with_reducible exact H | (rw [hy151]; exact H) | exact H
                   have Ny151 := Zad.mk hy151
                   clear hy151
                   by_cases c54 : y148.length + y151.length < 5864062014805
                   ·rw [if_pos c54] at H
                    have LMc54 := Zad.mk c54
                    clear c54
                    obtain ⟨y156, hy156⟩ : ∃ y_ : List (List Int), y_ = (y148 ++ y151) := ⟨_, rfl⟩
                    replace H : (Zam.l0 k4 a1 y156 l0_2 (l0_2.length : Int) (wrap64 (x15_1 + 1)) a0_0 a0_1 l0_2) = some r := by first | (rw [hy156]; with_reducible exact H) | (have H2_ := (Option.bind_some _ _).symm.trans H; rw [hy156]; with_reducible exact H2_) | (have H2_ := (Option.bind_some _ _).symm.trans H; with_reducible exact H2_) | with_reducible exact H | (rw [hy156]; exact H) | exact H
                    have Ny156 := Zad.mk hy156
                    clear hy156
                    have H' := Zad.mk H
                    clear H
                    obtain ⟨Ao55, co55, eo55⟩ := Kd.N_slice HO_5.out
                    subst eo55
                    go_wp2_with (first | ((with_reducible refine Zaz (N := 65) rfl ?_); refine Kd.N_lit (Kd.slice 3 (Kd.int .i64)) _ 31 ?hg (N' := 65) ?hd (xs := ([] : List (List Int))) (inner := []) (ok := (fun k_ => (w.heap.size ≤ k_) ∧ some k_ ≠ (.slice Ao55 x5_1.length co55 : Value).ownBlock ∧ some k_ ≠ (u8 : Value).ownBlock ∧ k_ ≠ g01)) (okp := (fun k_ => (w.heap.size ≤ k_) ∧ some k_ ≠ (.slice Ao55 x5_1.length co55 : Value).ownBlock ∧ some k_ ≠ (u8 : Value).ownBlock ∧ k_ ≠ g01)) ?hr ?hp (fun _ hk => hk) ((show ∀ k_, wr.heap.size ≤ k_ → (fun k_ => (w.heap.size ≤ k_) ∧ some k_ ≠ (.slice Ao55 x5_1.length co55 : Value).ownBlock ∧ some k_ ≠ (u8 : Value).ownBlock ∧ k_ ≠ g01) k_ from fun k_ hk => ⟨(Nat.le_trans (Zak (by with_reducible repeat first | exact HB.out | apply Zac | apply Zaa | apply Zab | refine Zai ?_ E01.out)) hk), Kd.fresh' (Kd.N_lt (by (with_reducible repeat (first | apply Kd.N_alloc | apply Kd.N_drewN | apply Kd.N_drew)); exact HO_5.out)) k_ hk, Kd.fresh' (Kd.R_lt (by (with_reducible repeat (first | apply Kd.R_alloc | apply Kd.R_drewN | apply Kd.R_drew)); exact HO_8.out)) k_ hk, Kd.freshB (g := g01) (o := .cells #[.int .i64 a0_0, .int .i64 a0_1, .slice (some ad102) l0_2.length c0_2] 52 (0, 0)) (by (with_reducible repeat (first | refine Zaf ?_ _ | refine Zaj ?_ | refine Zag ?_ _)); exact K01.out) k_ hk⟩) _ (Nat.le_refl _)) (Below.refl _ _) (Nat.le_refl _) (by simp) ?_; (case hd => rfl); (case hg => rfl); (case hr => first | (go_simp; done) | (go_simp; rfl)); (case hp => exact (Reps.none _ _)); intro v138 w56 ho57 hb hg_ hnew_; clear hg_ hnew_; (first | rw [← Ny137.out] at ho57 | (simp only [Int.reduceToNat] at ho57; rw [← Ny137.out] at ho57)); have n0_ := Zad.mk (Kd.N_elder' (by (with_reducible repeat (first | apply Kd.N_alloc | apply Kd.N_drewN | apply Kd.N_drew)); exact HO_5.out) (Kd.N_base ho57) hb); have n1_ := Zad.mk (Kd.R_below (by (with_reducible repeat (first | apply Kd.R_alloc | apply Kd.R_drewN | apply Kd.R_drew)); exact HO_8.out) hb); have n2_ := Zad.mk (Kd.N_lower ho57 (Zak (by with_reducible repeat first | exact HB.out | apply Zac | apply Zaa | apply Zab | refine Zai ?_ E01.out))); have n3_ := Zad.mk (Zat (g := g01) (o := .cells #[.int .i64 a0_0, .int .i64 a0_1, .slice (some ad102) l0_2.length c0_2] 52 (0, 0)) (by (with_reducible repeat (first | refine Zaf ?_ _ | refine Zaj ?_ | refine Zag ?_ _)); exact K01.out) hb); have n4_ := Zad.mk (Zal (by with_reducible repeat first | exact HB.out | apply Zac | apply Zaa | apply Zab | refine Zai ?_ E01.out) hb); clear HO_5; clear HO_8; clear K01; clear HB; have HO_5 := n0_; have HO_8 := n1_; have HO139 := n2_; have K01 := n3_; have HB := n4_; clear hb ho57; have q58 : (x10_4 : Int) ≤ ((x5_1.length : Int) : Int) := of_decide_eq_true (by first | (with_reducible assumption) | assumption); obtain ⟨i058, hi058, _, hsz58, _⟩ := info_parts Zdk; have hroom58 : x5_1.length ≤ co55 := (Kd.N_reads' HO_5.out).2.1; have hC58 : Kd.F (Kd.slice 3 (Kd.int .i64)) _ _ Ao55 x5_1.length x5_1 := (Kd.V_at (base := w.heap.size) (Kd.N_V HO_5.out)).2.2; have hcut58 := Zg5 (P := Tryz.prog) 56 31 .i64 Tryz.underlying56 hi058 Ao55 x5_1.length co55 x10_4 (of_decide_eq_true (by first | (with_reducible assumption) | assumption)) q58 hroom58; have hr58 := Kd.F_take (m := (x10_4 : Int).toNat) hC58 (by omega); have hy58 : y140.length = (x10_4 : Int).toNat := (by rw [Ny140.out, List.length_take]; omega); rw [← Ny140.out] at hr58; rw [← hy58] at hcut58; have HO144 := Zad.mk (show Kd.V (Kd.slice 3 (Kd.int .i64)) 31 _ w.heap.size _ (.slice Ao55 y140.length co55) y140 from Kd.V_mk (by omega) hr58); have HC144 := Zad.mk (show y140.length ≤ co55 from by omega); clear hr58 hC58 hroom58 hi058 hsz58; have KY58 := Zad.mk hy58; clear hy58; replace q58 := eq_true q58) | ((with_reducible refine Zbe (b := .append) (xs := #[.tmp 65, .tmp 68]) rfl ?_); at_builtin; refine Kd.N_append_rows (Kd.slice 3 (Kd.int .i64)) (w0 := w) w.heap.size rfl (.tmp 65) (.tmp 68) 56 31 (.slice none 0 0) 24 rfl Tryz.underlying56 Zdk rfl (by decide) (by omega) v138 y137 y140 _ _ _ (fun k_ => (w.heap.size ≤ k_) ∧ some k_ ≠ (u8 : Value).ownBlock ∧ k_ ≠ g01) (fun k_ => ((fun k_ => (w.heap.size ≤ k_) ∧ some k_ ≠ (u8 : Value).ownBlock ∧ k_ ≠ g01)) k_ ∧ some k_ ≠ (v138 : Value).ownBlock) rfl rfl ?aO ?aR (fun _ hk => hk) ?aF ?aB ?aS ?aL ?_; (case aR => exact (by skip; exact Kd.V_F (Kd.V_mono (ok' := (fun k_ => ((fun k_ => (w.heap.size ≤ k_) ∧ some k_ ≠ (u8 : Value).ownBlock ∧ k_ ≠ g01)) k_ ∧ some k_ ≠ (v138 : Value).ownBlock)) (HO144.out) (fun k_ hk => ⟨⟨hk.1.1, ⟨hk.1.2.1, hk.1.2.2⟩⟩, hk.2⟩)))); (case aB => exact (by with_reducible repeat first | exact HB.out | apply Zac | apply Zaa | apply Zab | refine Zai ?_ E01.out)); (case aF => exact (fun k_ hk => ⟨(Nat.le_trans (Zak (by with_reducible repeat first | exact HB.out | apply Zac | apply Zaa | apply Zab | refine Zai ?_ E01.out)) hk), Kd.fresh' (Kd.R_lt (by (with_reducible repeat (first | apply Kd.R_alloc | apply Kd.R_drewN | apply Kd.R_drew)); exact HO_8.out)) k_ hk, Kd.freshB (g := g01) (o := .cells #[.int .i64 a0_0, .int .i64 a0_1, .slice (some ad102) l0_2.length c0_2] 52 (0, 0)) (by (with_reducible repeat (first | refine Zaf ?_ _ | refine Zaj ?_ | refine Zag ?_ _)); exact K01.out) k_ hk⟩)); (case aO => exact (by (with_reducible repeat (first | apply Kd.N_alloc | apply Kd.N_drewN | apply Kd.N_drew)); exact Kd.N_mono HO139.out (fun _ hk => ⟨hk.1, ⟨hk.2.2.1, hk.2.2.2⟩⟩))); (case aS => exact (Zak (by with_reducible repeat first | exact HB.out | apply Zac | apply Zaa | apply Zab | refine Zai ?_ E01.out))); (case aL => have := LMc50.out; omega); intro v146 w59 ho hb hg hat; rw [← Ny145.out] at ho; have n0_ := Zad.mk (Kd.N_afterv (ok := (fun k_ => (w.heap.size ≤ k_) ∧ some k_ ≠ (u8 : Value).ownBlock ∧ k_ ≠ g01)) (by (with_reducible repeat (first | apply Kd.N_alloc | apply Kd.N_drewN | apply Kd.N_drew)); exact HO_5.out) hg hat); have n1_ := Zad.mk (Kd.R_over' (by (with_reducible repeat (first | apply Kd.R_alloc | apply Kd.R_drewN | apply Kd.R_drew)); exact HO_8.out) (Kd.N_typed (by (with_reducible repeat (first | apply Kd.N_alloc | apply Kd.N_drewN | apply Kd.N_drew)); exact HO139.out)) (by decide) hg); have n2_ := Zad.mk (Zbh (g := g01) (o := .cells #[.int .i64 a0_0, .int .i64 a0_1, .slice (some ad102) l0_2.length c0_2] 52 (0, 0)) (by (with_reducible repeat (first | refine Zaf ?_ _ | refine Zaj ?_ | refine Zag ?_ _)); exact K01.out) hg (Kd.N_ne HO139.out K01.out (by decide))); have n3_ := Zad.mk (Kd.V_afterv (ok := (fun k_ => (w.heap.size ≤ k_) ∧ some k_ ≠ (u8 : Value).ownBlock ∧ k_ ≠ g01)) (by (with_reducible repeat (first | apply Kd.V_alloc | apply Kd.V_drewN | apply Kd.V_drew)); exact HO144.out) hg hat); have n4_ := Zad.mk (hb); have n5_ := Zad.mk (ho); clear HO_5; clear HO_8; clear K01; clear HO144; clear HB; clear HO139; have HO_5 := n0_; have HO_8 := n1_; have K01 := n2_; have HO144 := n3_; have HB := n4_; have HO147 := n5_; clear ho hb hg hat; obtain ⟨Ao61, co61, eo61⟩ := Kd.R_slice HO_8.out; subst eo61) | ((with_reducible refine Zbe (b := .append) (xs := #[.tmp 69, .tmp 71]) rfl ?_); at_builtin; refine Kd.N_append (Kd.slice 3 (Kd.int .i64)) (w0 := w) w.heap.size rfl (.tmp 69) (.tmp 71) 56 31 (.slice none 0 0) 24 rfl Tryz.underlying56 Zdk rfl (by decide) (by omega) v146 y145 x8_3 [.slice Ao61 x8_3.length co61] (fun k_ => (w.heap.size ≤ k_) ∧ k_ ≠ g01) (fun k_ => ((fun k_ => (w.heap.size ≤ k_) ∧ k_ ≠ g01)) k_ ∧ some k_ ≠ (v146 : Value).ownBlock) rfl rfl ?aP (fun _ hk => hk) ?aF ?aO ?aB ?aS ?aL ?_; (case aP => exact (Kd.FK_slice_mk (Kd.R_reads' (Kd.R_mono (ok' := (fun k_ => ((fun k_ => (w.heap.size ≤ k_) ∧ k_ ≠ g01)) k_ ∧ some k_ ≠ (v146 : Value).ownBlock)) (Kd.R_types (Kd.R_apart' (HO_8.out) (Kd.N_typed HO147.out) (by decide)) K01.out (by decide)) (fun k_ hk => ⟨⟨hk.1.1, hk.2⟩, hk.1.2⟩))).2.1 (Kd.R_F (Kd.R_mono (ok' := (fun k_ => ((fun k_ => (w.heap.size ≤ k_) ∧ k_ ≠ g01)) k_ ∧ some k_ ≠ (v146 : Value).ownBlock)) (Kd.R_types (Kd.R_apart' (HO_8.out) (Kd.N_typed HO147.out) (by decide)) K01.out (by decide)) (fun k_ hk => ⟨⟨hk.1.1, hk.2⟩, hk.1.2⟩))))); (case aB => exact (by with_reducible repeat first | exact HB.out | apply Zac | apply Zaa | apply Zab | refine Zai ?_ E01.out)); (case aF => exact (fun k_ hk => ⟨(Nat.le_trans (Zak (by with_reducible repeat first | exact HB.out | apply Zac | apply Zaa | apply Zab | refine Zai ?_ E01.out)) hk), Kd.freshB (g := g01) (o := .cells #[.int .i64 a0_0, .int .i64 a0_1, .slice (some ad102) l0_2.length c0_2] 52 (0, 0)) (by (with_reducible repeat (first | refine Zaf ?_ _ | refine Zaj ?_ | refine Zag ?_ _)); exact K01.out) k_ hk⟩)); (case aO => exact (by (with_reducible repeat (first | apply Kd.N_alloc | apply Kd.N_drewN | apply Kd.N_drew)); exact Kd.N_mono HO147.out (fun _ hk => ⟨hk.1, hk.2.2⟩))); (case aS => exact (Zak (by with_reducible repeat first | exact HB.out | apply Zac | apply Zaa | apply Zab | refine Zai ?_ E01.out))); (case aL => have := LMc51.out; omega); intro v149 w60 ho hb hg hat; rw [← Ny148.out] at ho; have n0_ := Zad.mk (Kd.N_afterv (ok := (fun k_ => (w.heap.size ≤ k_) ∧ some k_ ≠ (.slice Ao61 x8_3.length co61 : Value).ownBlock ∧ k_ ≠ g01)) (by (with_reducible repeat (first | apply Kd.N_alloc | apply Kd.N_drewN | apply Kd.N_drew)); exact HO_5.out) hg hat); have n1_ := Zad.mk (Zbh (g := g01) (o := .cells #[.int .i64 a0_0, .int .i64 a0_1, .slice (some ad102) l0_2.length c0_2] 52 (0, 0)) (by (with_reducible repeat (first | refine Zaf ?_ _ | refine Zaj ?_ | refine Zag ?_ _)); exact K01.out) hg (Kd.N_ne HO147.out K01.out (by decide))); have n2_ := Zad.mk (Kd.V_afterv (ok := (fun k_ => (w.heap.size ≤ k_) ∧ some k_ ≠ (.slice Ao61 x8_3.length co61 : Value).ownBlock ∧ k_ ≠ g01)) (by (with_reducible repeat (first | apply Kd.V_alloc | apply Kd.V_drewN | apply Kd.V_drew)); exact HO144.out) hg hat); have n3_ := Zad.mk (hb); have n4_ := Zad.mk (ho); clear HO_5; clear K01; clear HO144; clear HB; clear HO147; clear HO_8; have HO_5 := n0_; have K01 := n1_; have HO144 := n2_; have HB := n3_; have HO150 := n4_; clear ho hb hg hat; have q62 : (x10_4 : Int) ≤ ((x5_1.length : Int) : Int) := of_decide_eq_true (by first | (with_reducible assumption) | assumption); obtain ⟨i062, hi062, _, hsz62, _⟩ := info_parts Zdk; have hroom62 : x5_1.length ≤ co55 := (Kd.N_reads' HO_5.out).2.1; have hC62 : Kd.F (Kd.slice 3 (Kd.int .i64)) _ _ Ao55 x5_1.length x5_1 := (Kd.V_at (base := w.heap.size) (Kd.N_V HO_5.out)).2.2; have q062 : (0 : Int) ≤ (x10_4 : Int) := of_decide_eq_true (by first | (with_reducible assumption) | assumption); have hcut62 := Zkc (P := Tryz.prog) 56 31 .i64 Tryz.underlying56 hi062 1 hsz62 Ao55 x5_1.length co55 x10_4 q062 q62; have hr62 := Kd.F_cut (m := (x10_4 : Int).toNat) (c := co55) hC62 (by omega) hroom62; obtain ⟨A62, hA62⟩ : ∃ A1, A1 = (if co55 = (x10_4 : Int).toNat then Ao55 else (Ao55 : Option Addr).map (·.add ((x10_4 : Int).toNat * 1))) := ⟨_, rfl⟩; obtain ⟨c62, hc62⟩ : ∃ c1, c1 = co55 - (x10_4 : Int).toNat := ⟨_, rfl⟩; have hy62 : y151.length = x5_1.length - (x10_4 : Int).toNat := (by rw [Ny151.out, List.length_drop] <;> omega); rw [show (x5_1).drop (x10_4 : Int).toNat = y151 from Ny151.out.symm] at hr62; replace hr62 : Kd.F (Kd.slice 3 (Kd.int .i64)) _ _ A62 y151.length y151 := (by rw [hA62]; exact hr62); rw [← hy62, ← hA62, ← hc62] at hcut62; have HO155 := Zad.mk (show Kd.V (Kd.slice 3 (Kd.int .i64)) 31 _ w.heap.size _ (.slice A62 y151.length c62) y151 from Kd.V_mk (by rw [hy62, hc62]; exact Nat.sub_le_sub_right hroom62 _) hr62); have HC155 := Zad.mk (show y151.length ≤ c62 from by rw [hy62, hc62]; exact Nat.sub_le_sub_right hroom62 _); clear hr62 hC62 hroom62 hi062 hsz62 hc62; have KY62 := Zad.mk hy62; have KA62 := Zad.mk hA62; clear hy62 hA62; replace q62 := eq_true q62) | ((with_reducible refine Zbe (b := .append) (xs := #[.tmp 73, .tmp 76]) rfl ?_); at_builtin; refine Kd.N_append_rows (Kd.slice 3 (Kd.int .i64)) (w0 := w) w.heap.size rfl (.tmp 73) (.tmp 76) 56 31 (.slice none 0 0) 24 rfl Tryz.underlying56 Zdk rfl (by decide) (by omega) v149 y148 y151 _ _ _ (fun k_ => (w.heap.size ≤ k_) ∧ k_ ≠ g01) (fun k_ => ((fun k_ => (w.heap.size ≤ k_) ∧ k_ ≠ g01)) k_ ∧ some k_ ≠ (v149 : Value).ownBlock) rfl rfl ?aO ?aR (fun _ hk => hk) ?aF ?aB ?aS ?aL ?_; (case aR => exact (by skip; exact Kd.V_F (Kd.V_mono (ok' := (fun k_ => ((fun k_ => (w.heap.size ≤ k_) ∧ k_ ≠ g01)) k_ ∧ some k_ ≠ (v149 : Value).ownBlock)) (HO155.out) (fun k_ hk => ⟨⟨hk.1.1, hk.1.2.2⟩, hk.2⟩)))); (case aB => exact (by with_reducible repeat first | exact HB.out | apply Zac | apply Zaa | apply Zab | refine Zai ?_ E01.out)); (case aF => exact (fun k_ hk => ⟨(Nat.le_trans (Zak (by with_reducible repeat first | exact HB.out | apply Zac | apply Zaa | apply Zab | refine Zai ?_ E01.out)) hk), Kd.freshB (g := g01) (o := .cells #[.int .i64 a0_0, .int .i64 a0_1, .slice (some ad102) l0_2.length c0_2] 52 (0, 0)) (by (with_reducible repeat (first | refine Zaf ?_ _ | refine Zaj ?_ | refine Zag ?_ _)); exact K01.out) k_ hk⟩)); (case aO => exact (by (with_reducible repeat (first | apply Kd.N_alloc | apply Kd.N_drewN | apply Kd.N_drew)); exact HO150.out)); (case aS => exact (Zak (by with_reducible repeat first | exact HB.out | apply Zac | apply Zaa | apply Zab | refine Zai ?_ E01.out))); (case aL => have := LMc54.out; omega); intro v157 w63 ho hb hg hat; rw [← Ny156.out] at ho; have n0_ := Zad.mk (Kd.N_afterv (ok := (fun k_ => (w.heap.size ≤ k_) ∧ k_ ≠ g01)) (by (with_reducible repeat (first | apply Kd.N_alloc | apply Kd.N_drewN | apply Kd.N_drew)); exact Kd.N_mono HO_5.out (fun _ hk => ⟨⟨hk.1.1, hk.1.2.2⟩, hk.2⟩)) hg hat); have n1_ := Zad.mk (Zbh (g := g01) (o := .cells #[.int .i64 a0_0, .int .i64 a0_1, .slice (some ad102) l0_2.length c0_2] 52 (0, 0)) (by (with_reducible repeat (first | refine Zaf ?_ _ | refine Zaj ?_ | refine Zag ?_ _)); exact K01.out) hg (Kd.N_ne HO150.out K01.out (by decide))); have n2_ := Zad.mk (Kd.V_afterv (ok := (fun k_ => (w.heap.size ≤ k_) ∧ k_ ≠ g01)) (by (with_reducible repeat (first | apply Kd.V_alloc | apply Kd.V_drewN | apply Kd.V_drew)); exact Kd.V_mono HO144.out (fun _ hk => ⟨⟨hk.1.1, hk.1.2.2⟩, hk.2⟩)) hg hat); have n3_ := Zad.mk (Kd.V_afterv (ok := (fun k_ => (w.heap.size ≤ k_) ∧ k_ ≠ g01)) (by (with_reducible repeat (first | apply Kd.V_alloc | apply Kd.V_drewN | apply Kd.V_drew)); exact Kd.V_mono HO155.out (fun _ hk => ⟨⟨hk.1.1, hk.1.2.2⟩, hk.2⟩)) hg hat); have n4_ := Zad.mk (hb); have n5_ := Zad.mk (ho); clear HO_5; clear K01; clear HO144; clear HO155; clear HB; clear HO150; have HO_5 := n0_; have K01 := n1_; have HO144 := n2_; have HO155 := n3_; have HB := n4_; have HO158 := n5_; clear ho hb hg hat))
                    go_roundg k4
                    case measure => have := HK1.out; have := HJ7.out; have := HK3.out; have := HK4.out; omega
                    case rel => exact ⟨(y156), (wrap64 (x15_1 + 1)), (by first | rfl | (simp; done) | (simp [*]; done)), H', ⟨by have := HK1.out; have := HJ7.out; have := HK3.out; have := HK4.out; omega⟩, ⟨by (with_reducible repeat (first | apply Kd.N_alloc | apply Kd.N_drewN | apply Kd.N_drew)); exact HO158.out⟩, ⟨by (with_reducible repeat (first | refine Zaf ?_ _ | refine Zaj ?_ | refine Zag ?_ _)); exact K01.out⟩, ⟨by with_reducible repeat first | exact HB.out | apply Zac | apply Zaa | apply Zab | refine Zai ?_ E01.out⟩⟩
                   ·rw [if_neg c54] at H
                    exact absurd H (by simp)
                  ·rw [if_neg c51] at H
                   exact absurd H (by simp)
                 ·rw [if_neg c50] at H
                  exact absurd H (by simp)
                ·rw [if_neg c49] at H
                 exact absurd H (by simp)
               ·rw [if_neg c48] at H
                exact absurd H (by simp)
     ·rw [if_neg c7] at H
      exact absurd H (by simp)
    ·rw [if_neg c6] at H
     exact absurd H (by simp)
   ·rw [if_neg c5] at H
    have c5b0 : decide (x15_1 < (l0_2.length : Int)) = false := decide_eq_false c5
    clear c5
    obtain rfl := Option.some.inj H
    go_wp2
    go_ret
    exact ⟨_, by first | rfl | (simp [Zap, Zao] <;> rfl) | (simp [*, Zap, Zao] <;> rfl), by (with_reducible repeat (first | apply Kd.N_alloc | apply Kd.N_drewN | apply Kd.N_drew)); exact Kd.N_mono HO_5.out (fun _ hk => hk.1), by repeat (first | (with_reducible first | exact HB.out | apply Zac | apply Zaa | apply Zab | refine Zai ?_ E01.out) | exact HB.out)⟩
def Zbt.f (a0_0 : Int) (a0_1 : Int) (l0_2 : List Int) (a1 : Int) (a2 : Int) : Option (Int) := some (wrap64 ((wrap64 (a2 * a0_0)) + a1))
set_option maxHeartbeats 8000000 in
set_option maxRecDepth 100000 in
theorem Zbt.calls (a0_0 : Int) (a0_1 : Int) (A0_2 : Option Addr) (c0_2 : Nat) (l0_2 : List Int) (a1 : Int) (a2 : Int) (r : Int) (w : World) (hr0_2 : Kd.C (Kd.int .u8) w A0_2 l0_2.length l0_2) (hc0_2 : l0_2.length ≤ c0_2) (h : Zbt.f a0_0 a0_1 l0_2 a1 a2 = some r) :
  Calls Tryz.prog 216 #[.agg #[.int .i64 a0_0, .int .i64 a0_1, .slice A0_2 l0_2.length c0_2], .int .i64 a1, .int .i64 a2] w fun e w' => e = .returned (.int .i64 r) ∧ Below w.heap.size w w' := by
 have hu93 := Tryz.underlying93
 have HR0_2 := Zad.mk hr0_2
 have HC0_2 := Zad.mk hc0_2
 clear hr0_2 hc0_2
 have HB := Zad.mk (Below.refl w.heap.size w)
 have H : (some (wrap64 ((wrap64 (a2 * a0_0)) + a1))) = some r := h
 clear h
 obtain rfl := Option.some.inj H
 go_enter Tryz.func216, Tryz.ntmps216
 go_wp2_with (first | ((with_reducible refine Zaz (N := 3) rfl ?_); refine Zay ?hg (N := 3) ?hd (cs := #[.int .i64 a0_0, .int .i64 a0_1, .slice A0_2 l0_2.length c0_2]) (t := 93) ?hr ?_; (case hd => rfl); (case hg => rfl); (case hr => first | (go_simp; done) | (go_simp; rfl)); intro g01 hg w4 hbox hb; have n0_ := Zad.mk (Zal (by with_reducible repeat first | exact HB.out | apply Zac | apply Zaa | apply Zab) hb); have n1_ := Zad.mk (hbox); have n2_ := Zad.mk ((by rw [hg]; exact (Zak (by with_reducible repeat first | exact HB.out | apply Zac | apply Zaa | apply Zab)) : w.heap.size ≤ g01)); have n3_ := n2_; clear HB; have HB := n0_; have K01 := n1_; have W01 := n2_; have E01 := n3_; clear hb hbox hg; have hcz5_0 : w4.cell? ⟨g01, 0, none⟩ = some (.int .i64 a0_0) := (Zah K01.out 0).trans rfl; have hcz5_1 : w4.cell? ⟨g01, 1, none⟩ = some (.int .i64 a0_1) := (Zah K01.out 1).trans rfl; have hcz5_2 : w4.cell? ⟨g01, 2, none⟩ = some (.slice A0_2 l0_2.length c0_2) := (Zah K01.out 2).trans rfl; have hfz5_0 := Zae K01.out 0; have hfz5_1 := Zae K01.out 1; have hfz5_2 := Zae K01.out 2))
 go_ret
 exact ⟨by first | rfl | (simp [Zap, Zao] <;> rfl) | (simp [*, Zap, Zao] <;> rfl), by repeat (first | (with_reducible first | exact HB.out | apply Zac | apply Zaa | apply Zab | refine Zai ?_ E01.out) | exact HB.out)⟩
end Go.Proofs.YtjohcjkidoalkaaGreatDoor.PA
namespace Go.Proofs
open Go.Shelf
def Tryz.lays143_ren : Go.Shelf.Ren := ⟨fun | 143 => 126 | 219 => 177 | 217 => 202 | 225 => 203 | 224 => 204 | 267 => 205 | 266 => 219 | 314 => 220 | n => n, fun | 9 => 9 | 3 => 3 | 4 => 4 | 5 => 5 | 46 => 99 | 146 => 207 | 51 => 135 | n => n, fun | 1 => 0 | n => n⟩
theorem Tryz.lays143 : Go.Proofs.Lays.n143 Tryz.prog Tryz.lays143_ren := {
 mixed := by kernel_rfl
 f143 := Tryz.func126.trans (congrArg some (by kernel_rfl))
 f217 := Tryz.func202.trans (congrArg some (by kernel_rfl))
 f219 := Tryz.func177.trans (congrArg some (by kernel_rfl))
 f224 := Tryz.func204.trans (congrArg some (by kernel_rfl))
 f225 := Tryz.func203.trans (congrArg some (by kernel_rfl))
 f266 := Tryz.func219.trans (congrArg some (by kernel_rfl))
 f267 := Tryz.func205.trans (congrArg some (by kernel_rfl))
 f314 := Tryz.func220.trans (congrArg some (by kernel_rfl))
 t3 := Tryz.underlying3
 a3 := Tryz.isAgg3
 z3 := Tryz.sizeOf3
 v3 := Tryz.zeroValue3
 t4 := Tryz.underlying4
 a4 := Tryz.isAgg4
 z4 := Tryz.sizeOf4
 v4 := Tryz.zeroValue4
 t5 := Tryz.underlying5
 a5 := Tryz.isAgg5
 z5 := Tryz.sizeOf5
 v5 := Tryz.zeroValue5
 t9 := Tryz.underlying9
 a9 := Tryz.isAgg9
 z9 := Tryz.sizeOf9
 v9 := Tryz.zeroValue9
 t46 := Tryz.underlying99
 a46 := Tryz.isAgg99
 z46 := Tryz.sizeOf99
 v46 := Tryz.zeroValue99
 t51 := Tryz.underlying135
 a51 := Tryz.isAgg135
 z51 := Tryz.sizeOf135
 v51 := Tryz.zeroValue135
 t146 := Tryz.underlying207
 a146 := Tryz.isAgg207
 z146 := Tryz.sizeOf207
 v146 := Tryz.zeroValue207
 g1 := by kernel_rfl }
def Tryz.lays138_ren : Go.Shelf.Ren := ⟨fun | 138 => 82 | 195 => 124 | 218 => 125 | 143 => 126 | 219 => 177 | 217 => 202 | 225 => 203 | 224 => 204 | 267 => 205 | 266 => 219 | 314 => 220 | n => n, fun | 9 => 9 | 3 => 3 | 4 => 4 | 5 => 5 | 0 => 0 | 46 => 99 | 146 => 207 | 51 => 135 | n => n, fun | 1 => 0 | n => n⟩
theorem Tryz.lays138 : Go.Proofs.Lays.n138 Tryz.prog Tryz.lays138_ren := {
 mixed := by kernel_rfl
 f138 := Tryz.func82.trans (congrArg some (by kernel_rfl))
 f143 := Tryz.func126.trans (congrArg some (by kernel_rfl))
 f195 := Tryz.func124.trans (congrArg some (by kernel_rfl))
 f217 := Tryz.func202.trans (congrArg some (by kernel_rfl))
 f218 := Tryz.func125.trans (congrArg some (by kernel_rfl))
 f219 := Tryz.func177.trans (congrArg some (by kernel_rfl))
 f224 := Tryz.func204.trans (congrArg some (by kernel_rfl))
 f225 := Tryz.func203.trans (congrArg some (by kernel_rfl))
 f266 := Tryz.func219.trans (congrArg some (by kernel_rfl))
 f267 := Tryz.func205.trans (congrArg some (by kernel_rfl))
 f314 := Tryz.func220.trans (congrArg some (by kernel_rfl))
 t0 := Tryz.underlying0
 a0 := Tryz.isAgg0
 z0 := Tryz.sizeOf0
 v0 := Tryz.zeroValue0
 t3 := Tryz.underlying3
 a3 := Tryz.isAgg3
 z3 := Tryz.sizeOf3
 v3 := Tryz.zeroValue3
 t4 := Tryz.underlying4
 a4 := Tryz.isAgg4
 z4 := Tryz.sizeOf4
 v4 := Tryz.zeroValue4
 t5 := Tryz.underlying5
 a5 := Tryz.isAgg5
 z5 := Tryz.sizeOf5
 v5 := Tryz.zeroValue5
 t9 := Tryz.underlying9
 a9 := Tryz.isAgg9
 z9 := Tryz.sizeOf9
 v9 := Tryz.zeroValue9
 t46 := Tryz.underlying99
 a46 := Tryz.isAgg99
 z46 := Tryz.sizeOf99
 v46 := Tryz.zeroValue99
 t51 := Tryz.underlying135
 a51 := Tryz.isAgg135
 z51 := Tryz.sizeOf135
 v51 := Tryz.zeroValue135
 t146 := Tryz.underlying207
 a146 := Tryz.isAgg207
 z146 := Tryz.sizeOf207
 v146 := Tryz.zeroValue207
 g1 := by kernel_rfl }
def Tryz.lays160_ren : Go.Shelf.Ren := ⟨fun | 160 => 106 | 232 => 159 | 231 => 158 | 227 => 160 | 234 => 162 | 233 => 161 | 236 => 164 | 235 => 163 | 228 => 190 | 271 => 193 | 151 => 192 | 197 => 191 | 120 => 212 | 152 => 211 | 260 => 210 | 137 => 222 | 119 => 223 | 224 => 204 | 225 => 203 | 217 => 202 | 266 => 219 | n => n, fun | 9 => 9 | 4 => 4 | 3 => 3 | 5 => 5 | 117 => 160 | 116 => 159 | 0 => 0 | 124 => 163 | 21 => 21 | 105 => 189 | 46 => 99 | 119 => 209 | 139 => 212 | 138 => 211 | n => n, fun | 3 => 1 | 4 => 2 | n => n⟩
theorem Tryz.lays160 : Go.Proofs.Lays.n160 Tryz.prog Tryz.lays160_ren := {
 mixed := by kernel_rfl
 f119 := Tryz.func223.trans (congrArg some (by kernel_rfl))
 f120 := Tryz.func212.trans (congrArg some (by kernel_rfl))
 f137 := Tryz.func222.trans (congrArg some (by kernel_rfl))
 f151 := Tryz.func192.trans (congrArg some (by kernel_rfl))
 f152 := Tryz.func211.trans (congrArg some (by kernel_rfl))
 f160 := Tryz.func106.trans (congrArg some (by kernel_rfl))
 f197 := Tryz.func191.trans (congrArg some (by kernel_rfl))
 f217 := Tryz.func202.trans (congrArg some (by kernel_rfl))
 f224 := Tryz.func204.trans (congrArg some (by kernel_rfl))
 f225 := Tryz.func203.trans (congrArg some (by kernel_rfl))
 f227 := Tryz.func160.trans (congrArg some (by kernel_rfl))
 f228 := Tryz.func190.trans (congrArg some (by kernel_rfl))
 f231 := Tryz.func158.trans (congrArg some (by kernel_rfl))
 f232 := Tryz.func159.trans (congrArg some (by kernel_rfl))
 f233 := Tryz.func161.trans (congrArg some (by kernel_rfl))
 f234 := Tryz.func162.trans (congrArg some (by kernel_rfl))
 f235 := Tryz.func163.trans (congrArg some (by kernel_rfl))
 f236 := Tryz.func164.trans (congrArg some (by kernel_rfl))
 f260 := Tryz.func210.trans (congrArg some (by kernel_rfl))
 f266 := Tryz.func219.trans (congrArg some (by kernel_rfl))
 f271 := Tryz.func193.trans (congrArg some (by kernel_rfl))
 t0 := Tryz.underlying0
 a0 := Tryz.isAgg0
 z0 := Tryz.sizeOf0
 v0 := Tryz.zeroValue0
 t3 := Tryz.underlying3
 a3 := Tryz.isAgg3
 z3 := Tryz.sizeOf3
 v3 := Tryz.zeroValue3
 t4 := Tryz.underlying4
 a4 := Tryz.isAgg4
 z4 := Tryz.sizeOf4
 v4 := Tryz.zeroValue4
 t5 := Tryz.underlying5
 a5 := Tryz.isAgg5
 z5 := Tryz.sizeOf5
 v5 := Tryz.zeroValue5
 t9 := Tryz.underlying9
 a9 := Tryz.isAgg9
 z9 := Tryz.sizeOf9
 v9 := Tryz.zeroValue9
 t21 := Tryz.underlying21
 a21 := Tryz.isAgg21
 z21 := Tryz.sizeOf21
 v21 := Tryz.zeroValue21
 t46 := Tryz.underlying99
 a46 := Tryz.isAgg99
 z46 := Tryz.sizeOf99
 v46 := Tryz.zeroValue99
 t105 := Tryz.underlying189
 a105 := Tryz.isAgg189
 z105 := Tryz.sizeOf189
 v105 := Tryz.zeroValue189
 t116 := Tryz.underlying159
 a116 := Tryz.isAgg159
 z116 := Tryz.sizeOf159
 t117 := Tryz.underlying160
 a117 := Tryz.isAgg160
 z117 := Tryz.sizeOf160
 v117 := Tryz.zeroValue160
 t119 := Tryz.underlying209
 a119 := Tryz.isAgg209
 z119 := Tryz.sizeOf209
 t124 := Tryz.underlying163
 a124 := Tryz.isAgg163
 z124 := Tryz.sizeOf163
 v124 := Tryz.zeroValue163
 t138 := Tryz.underlying211
 a138 := Tryz.isAgg211
 z138 := Tryz.sizeOf211
 v138 := Tryz.zeroValue211
 t139 := Tryz.underlying212
 a139 := Tryz.isAgg212
 z139 := Tryz.sizeOf212
 v139 := Tryz.zeroValue212
 g3 := by kernel_rfl
 g4 := by kernel_rfl }
def Tryz.lays156_ren : Go.Shelf.Ren := ⟨fun | 156 => 107 | 165 => 165 | 166 => 166 | 169 => 167 | 240 => 194 | 241 => 195 | 276 => 213 | 277 => 214 | n => n, fun | 31 => 22 | 9 => 9 | 3 => 3 | 4 => 4 | 0 => 0 | 20 => 20 | 72 => 166 | 76 => 170 | 70 => 164 | 37 => 50 | 75 => 169 | 127 => 192 | 164 => 202 | 5 => 5 | 80 => 96 | n => n, fun | n => n⟩
theorem Tryz.lays156 : Go.Proofs.Lays.n156 Tryz.prog Tryz.lays156_ren := {
 mixed := by kernel_rfl
 f156 := Tryz.func107.trans (congrArg some (by kernel_rfl))
 f165 := Tryz.func165.trans (congrArg some (by kernel_rfl))
 f166 := Tryz.func166.trans (congrArg some (by kernel_rfl))
 f169 := Tryz.func167.trans (congrArg some (by kernel_rfl))
 f240 := Tryz.func194.trans (congrArg some (by kernel_rfl))
 f241 := Tryz.func195.trans (congrArg some (by kernel_rfl))
 f276 := Tryz.func213.trans (congrArg some (by kernel_rfl))
 f277 := Tryz.func214.trans (congrArg some (by kernel_rfl))
 t0 := Tryz.underlying0
 a0 := Tryz.isAgg0
 z0 := Tryz.sizeOf0
 v0 := Tryz.zeroValue0
 t3 := Tryz.underlying3
 a3 := Tryz.isAgg3
 z3 := Tryz.sizeOf3
 v3 := Tryz.zeroValue3
 t4 := Tryz.underlying4
 a4 := Tryz.isAgg4
 z4 := Tryz.sizeOf4
 v4 := Tryz.zeroValue4
 t9 := Tryz.underlying9
 a9 := Tryz.isAgg9
 z9 := Tryz.sizeOf9
 v9 := Tryz.zeroValue9
 t20 := Tryz.underlying20
 a20 := Tryz.isAgg20
 z20 := Tryz.sizeOf20
 v20 := Tryz.zeroValue20
 t31 := Tryz.underlying22
 a31 := Tryz.isAgg22
 z31 := Tryz.sizeOf22
 v31 := Tryz.zeroValue22
 t37 := Tryz.underlying50
 a37 := Tryz.isAgg50
 z37 := Tryz.sizeOf50
 v37 := Tryz.zeroValue50
 t70 := Tryz.underlying164
 a70 := Tryz.isAgg164
 z70 := Tryz.sizeOf164
 v70 := Tryz.zeroValue164
 t72 := Tryz.underlying166
 a72 := Tryz.isAgg166
 z72 := Tryz.sizeOf166
 v72 := Tryz.zeroValue166
 t75 := Tryz.underlying169
 a75 := Tryz.isAgg169
 z75 := Tryz.sizeOf169
 v75 := Tryz.zeroValue169
 t76 := Tryz.underlying170
 a76 := Tryz.isAgg170
 z76 := Tryz.sizeOf170
 v76 := Tryz.zeroValue170
 t127 := Tryz.underlying192
 a127 := Tryz.isAgg192
 z127 := Tryz.sizeOf192
 v127 := Tryz.zeroValue192
 t164 := Tryz.underlying202
 a164 := Tryz.isAgg202
 z164 := Tryz.sizeOf202
 v164 := Tryz.zeroValue202 }
theorem Tryz.Builder_Extra_156 : Builder.Extra Tryz.prog Tryz.lays156_ren := {
 sizeBuilder := by kernel_rfl
 liesBuilder := by kernel_rfl
 t5 := Tryz.underlying5
 a5 := Tryz.isAgg5
 z5 := Tryz.sizeOf5
 v5 := Tryz.zeroValue5
 infoByte := by kernel_rfl
 cellsByte := by kernel_rfl
 sizeByte := by kernel_rfl
 neB5 := by decide }
end Go.Proofs
namespace Go.Proofs.YtjohcjkidoalkaaGreatDoor
open Go.RowKit Go.PW.PrintWords Go.PW.PrintLast Go.PW.PrintMore
def Zc4.f (_ : ByteArray) (_ : Int) : Option (List ByteArray) := none
theorem Zc4.calls (a0 : ByteArray) (a1 : Int) (r : List ByteArray) (w : World) (h : Zc4.f a0 a1 = some r) :
  Calls Tryz.prog 189 #[.string a0, .int .i64 a1] w fun e w' => ∃ v0_ : Value, e = .returned (v0_) ∧ Kd.R Kd.string 9 w' w.heap.size (fun _ => True) v0_ r ∧ Below w.heap.size w w' := by
 simp [Zc4.f] at h
def Zcw.f (s sep : ByteArray) : Option Int := if sep.size = 1 then some (Lib.indexByte s.data.toList (sep.data.getD 0 0)) else none
theorem Zj6 {sep : ByteArray} (h : sep.size = 1) : sep = ⟨#[sep.data.getD 0 0]⟩ := by
 obtain ⟨⟨l⟩⟩ := sep
 match l, h with
 | [c], _ => rfl
theorem Zcw.calls (a0 a1 : ByteArray) (r : Int) (w : World) (h : Zcw.f a0 a1 = some r) :
  Calls Tryz.prog 126 #[.string a0, .string a1] w fun e w' => e = .returned (.int .i64 r) ∧ Below w.heap.size w w' := by
 unfold Zcw.f at h
 split at h
 ·rename_i h1
  obtain rfl := Option.some.inj h
  have := Zj6 h1
  generalize hc : a1.data.getD 0 0 = c at this ⊢
  subst this
  exact (Any.strings_Index_one Tryz.lays143 a0 c w).mono fun e w' ⟨he, hw⟩ => ⟨he, hw ▸ Below.refl _ _⟩
 ·cases h
def Zb9.f (s sep : ByteArray) : Option Int := if sep.size = 1 then some (Lib.countByte s.data.toList (sep.data.getD 0 0) : Nat) else none
theorem Zb9.calls (a0 a1 : ByteArray) (r : Int) (w : World) (h : Zb9.f a0 a1 = some r) :
  Calls Tryz.prog 82 #[.string a0, .string a1] w fun e w' => e = .returned (.int .i64 r) ∧ Below w.heap.size w w' := by
 unfold Zb9.f at h
 split at h
 ·rename_i h1
  obtain rfl := Option.some.inj h
  have := Zj6 h1
  generalize hc : a1.data.getD 0 0 = c at this ⊢
  subst this
  exact (Any.strings_Count_one Tryz.lays138 a0 c w).mono fun e w' ⟨he, hw⟩ => ⟨he, hw ▸ Below.refl _ _⟩
 ·cases h
def Zcl.f (s cut : ByteArray) : Option ByteArray := if s.size ≤ 9223372036854775807 ∧ cut.size < 1000 ∧ cut.data.toList.all (·.toNat < 128) then some ⟨(Lib.trimS s.data.toList cut.data.toList).toArray⟩ else none
theorem Zcl.calls (a0 a1 : ByteArray) (r : ByteArray) (w : World) (h : Zcl.f a0 a1 = some r) :
  Calls Tryz.prog 106 #[.string a0, .string a1] w fun e w' => e = .returned (.string r) ∧ Below w.heap.size w w' := by
 unfold Zcl.f at h
 split at h
 ·rename_i h1
  obtain ⟨h1, h2, h3⟩ := h1
  obtain rfl := Option.some.inj h
  exact Any.strings_Trim_laid Tryz.lays160 (by kernel_rfl) a0 a1 w h1 (by omega) (fun j b hb => by
   have := List.all_eq_true.1 h3 b (List.mem_of_getElem? hb)
   simpa using this)
 ·cases h
theorem Zd9 {α : Type} {enc : α → Value} {h1 : ∀ x, (enc x).oneCell' = true} {w : World} {A : Option Addr} {n : Nat} {xs : List α} (h : (Kd.scalar enc h1).C w A n xs) :
  xs.length = n ∧ n ≤ 9223372036854775807 ∧ (xs = [] ∨ ∃ b off, A = some ⟨b, off, none⟩ ∧ b < w.heap.size ∧ ∀ (j : Nat) x, xs[j]? = some x → w.cell? ⟨b, off + j, none⟩ = some (enc x)) := by
 refine ⟨h.1, h.2.1, ?_⟩
 cases xs with
 | nil => exact .inl rfl
 | cons y ys =>
  refine .inr ?_
  obtain ⟨ad, e, hc⟩ := h.2.2 (by have := h.1; simp at this; omega)
  have hcell : ∀ (j : Nat) x, (y :: ys)[j]? = some x → w.cell? (ad.add j) = some (enc x) := by
   intro j x hj
   obtain ⟨c, hl, hK, hcc⟩ := hc j x hj
   obtain rfl : c = [enc x] := hK
   have := hcc 0 (enc x) rfl
   simpa [Kd.scalar] using this
  obtain ⟨b, off, sp⟩ := ad
  have h0 := hcell 0 y rfl
  have hsp : sp = none := by
   cases sp with
   | none => rfl
   | some s => simp [Addr.add, World.cell?] at h0; split at h0 <;> simp at h0
  subst hsp
  refine ⟨b, off, e, ?_, fun j x hj => ?_⟩
  ·rcases Nat.lt_or_ge b w.heap.size with hb | hb
   ·exact hb
   ·simp [Addr.add, World.cell?, Array.getElem?_eq_none hb] at h0
  ·have := hcell j x hj
   unfold Addr.add at this
   split at this
   ·rename_i hj0; subst hj0; simpa using this
   ·exact this
def strings_Join.f (l : List ByteArray) (sep : ByteArray) : Option ByteArray :=
 if l.length ≤ 140737488355328 ∧ (Lib.join (l.map (·.data.toList)) sep.data.toList).length ≤ 140737488355328 then some ⟨(Lib.join (l.map (·.data.toList)) sep.data.toList).toArray⟩ else none
theorem strings_Join.calls (A0 : Option Addr) (c0 : Nat) (l0 : List ByteArray) (a1 : ByteArray) (r : ByteArray) (w : World) (hr0 : Kd.C Kd.string w A0 l0.length l0) (hc0 : l0.length ≤ c0) (h : strings_Join.f l0 a1 = some r) :
  Calls Tryz.prog 107 #[.slice A0 l0.length c0, .string a1] w fun e w' => e = .returned (.string r) ∧ Below w.heap.size w w' := by
 unfold strings_Join.f at h
 split at h
 ·rename_i h1
  obtain rfl := Option.some.inj h
  obtain ⟨_, _, hx⟩ := Zd9 hr0
  rcases hx with rfl | ⟨b, off, rfl, hb, hcell⟩
  ·exact (Any.strings_Join_none Tryz.lays156 Tryz.Builder_Extra_156 A0 c0 a1 w).mono fun e w' ⟨he, hw⟩ => ⟨he, hw ▸ Below.refl _ _⟩
  ·exact Any.strings_Join Tryz.lays156 Tryz.Builder_Extra_156 b off c0 l0 a1 w hcell hb h1.1 hc0 h1.2
 ·cases h
theorem field_tray0 (x y z : Value) (w : World) : Sem.run Tryz.prog (Instr.field 93 (.agg #[x, y, z]) 0) w = .ok x w := by
 have hu := Tryz.underlying93
 have ha := Tryz.isAgg3
 simp [Instr.field, run_underlying hu, part, asAgg, ha]
theorem field_tray1 (x y z : Value) (w : World) : Sem.run Tryz.prog (Instr.field 93 (.agg #[x, y, z]) 1) w = .ok y w := by
 have hu := Tryz.underlying93
 have ha := Tryz.isAgg3
 simp [Instr.field, run_underlying hu, part, asAgg, ha]
theorem field_tray2 (x y z : Value) (w : World) : Sem.run Tryz.prog (Instr.field 93 (.agg #[x, y, z]) 2) w = .ok z w := by
 have hu := Tryz.underlying93
 have ha := Tryz.isAgg50
 simp [Instr.field, run_underlying hu, part, asAgg, ha]
end Go.Proofs.YtjohcjkidoalkaaGreatDoor
namespace Go.Proofs
open Go.Shelf
def Tryz.lays114_ren : Go.Shelf.Ren := ⟨fun | 114 => 200 | n => n, fun | 28 => 31 | 3 => 3 | 4 => 4 | 9 => 9 | 20 => 20 | 0 => 0 | n => n, fun | n => n⟩
theorem Tryz.lays114 : Go.Proofs.Lays.n114 Tryz.prog Tryz.lays114_ren := {
 mixed := by kernel_rfl
 f114 := Tryz.func200.trans (congrArg some (by kernel_rfl))
 t0 := Tryz.underlying0
 a0 := Tryz.isAgg0
 z0 := Tryz.sizeOf0
 v0 := Tryz.zeroValue0
 t3 := Tryz.underlying3
 a3 := Tryz.isAgg3
 z3 := Tryz.sizeOf3
 v3 := Tryz.zeroValue3
 t4 := Tryz.underlying4
 a4 := Tryz.isAgg4
 z4 := Tryz.sizeOf4
 v4 := Tryz.zeroValue4
 t9 := Tryz.underlying9
 a9 := Tryz.isAgg9
 z9 := Tryz.sizeOf9
 v9 := Tryz.zeroValue9
 t20 := Tryz.underlying20
 a20 := Tryz.isAgg20
 z20 := Tryz.sizeOf20
 v20 := Tryz.zeroValue20
 t28 := Tryz.underlying31
 a28 := Tryz.isAgg31
 z28 := Tryz.sizeOf31
 v28 := Tryz.zeroValue31 }
def Tryz.lays107_ren : Go.Shelf.Ren := ⟨fun | 107 => 179 | 108 => 207 | n => n, fun | 28 => 31 | 3 => 3 | 4 => 4 | 0 => 0 | n => n, fun | n => n⟩
theorem Tryz.lays107 : Go.Proofs.Lays.n107 Tryz.prog Tryz.lays107_ren := {
 mixed := by kernel_rfl
 f107 := Tryz.func179.trans (congrArg some (by kernel_rfl))
 f108 := Tryz.func207.trans (congrArg some (by kernel_rfl))
 t0 := Tryz.underlying0
 a0 := Tryz.isAgg0
 z0 := Tryz.sizeOf0
 v0 := Tryz.zeroValue0
 t3 := Tryz.underlying3
 a3 := Tryz.isAgg3
 z3 := Tryz.sizeOf3
 v3 := Tryz.zeroValue3
 t4 := Tryz.underlying4
 a4 := Tryz.isAgg4
 z4 := Tryz.sizeOf4
 v4 := Tryz.zeroValue4
 t28 := Tryz.underlying31
 a28 := Tryz.isAgg31
 z28 := Tryz.sizeOf31
 v28 := Tryz.zeroValue31 }
def Tryz.laysCloneB_ren : Go.Shelf.Ren := ⟨fun | 41 => 215 | n => n, fun | 22 => 50 | 23 => 5 | 4 => 4 | n => n, fun | n => n⟩
theorem Tryz.laysCloneB : Go.Proofs.SlLaysE0.n41 Tryz.prog Tryz.laysCloneB_ren := {
 mixed := by kernel_rfl
 f41 := ⟨Tryz.f215.name, by decide, Tryz.func215.trans (congrArg some (by kernel_rfl))⟩
 t4 := Tryz.underlying4
 a4 := Tryz.isAgg4
 z4 := Tryz.sizeOf4
 v4 := Tryz.zeroValue4
 t22 := Tryz.underlying50
 a22 := Tryz.isAgg50
 z22 := Tryz.sizeOf50
 v22 := Tryz.zeroValue50 }
def Tryz.laysCloneI_ren : Go.Shelf.Ren := ⟨fun | 41 => 50 | n => n, fun | 22 => 31 | 23 => 3 | 4 => 4 | n => n, fun | n => n⟩
theorem Tryz.laysCloneI : Go.Proofs.SlLaysE0.n41 Tryz.prog Tryz.laysCloneI_ren := {
 mixed := by kernel_rfl
 f41 := ⟨Tryz.f50.name, by decide, Tryz.func50.trans (congrArg some (by kernel_rfl))⟩
 t4 := Tryz.underlying4
 a4 := Tryz.isAgg4
 z4 := Tryz.sizeOf4
 v4 := Tryz.zeroValue4
 t22 := Tryz.underlying31
 a22 := Tryz.isAgg31
 z22 := Tryz.sizeOf31
 v22 := Tryz.zeroValue31 }
def Tryz.laysCompactI_ren : Go.Shelf.Ren := ⟨fun | 43 => 49 | n => n, fun | 22 => 31 | 23 => 3 | 3 => 3 | 4 => 4 | 0 => 0 | n => n, fun | n => n⟩
theorem Tryz.laysCompactI : Go.Proofs.SlLaysE.n43 Tryz.prog Tryz.laysCompactI_ren := {
 mixed := by kernel_rfl
 f43 := ⟨Tryz.f49.name, by decide, Tryz.func49.trans (congrArg some (by kernel_rfl))⟩
 t0 := Tryz.underlying0
 a0 := Tryz.isAgg0
 z0 := Tryz.sizeOf0
 v0 := Tryz.zeroValue0
 t3 := Tryz.underlying3
 a3 := Tryz.isAgg3
 z3 := Tryz.sizeOf3
 v3 := Tryz.zeroValue3
 t4 := Tryz.underlying4
 a4 := Tryz.isAgg4
 z4 := Tryz.sizeOf4
 v4 := Tryz.zeroValue4
 t22 := Tryz.underlying31
 a22 := Tryz.isAgg31
 z22 := Tryz.sizeOf31
 v22 := Tryz.zeroValue31
 a23 := Tryz.isAgg3
 z23 := Tryz.sizeOf3 }
def Tryz.laysSortI_ren : Go.Shelf.Ren := ⟨fun | 5 => 48 | 8 => 73 | 7 => 94 | 19 => 120 | 20 => 121 | 10 => 135 | 11 => 136 | 12 => 137 | 13 => 138 | 14 => 139 | 15 => 140 | 16 => 141 | 17 => 142 | 18 => 143 | 30 => 180 | 31 => 172 | 32 => 173 | 33 => 181 | 34 => 182 | 35 => 183 | 40 => 208 | n => n, fun | 23 => 31 | 25 => 3 | 3 => 3 | 32 => 99 | 22 => 31 | 0 => 0 | 44 => 135 | 46 => 137 | 4 => 4 | 36 => 129 | 35 => 128 | 41 => 28 | 5 => 5 | 9 => 9 | 53 => 175 | 57 => 179 | 63 => 195 | 64 => 196 | n => n, fun | n => n⟩
theorem Tryz.laysSortI : Go.Proofs.SlLaysM.n5 Tryz.prog Tryz.laysSortI_ren := {
 mixed := by kernel_rfl
 f5 := ⟨Tryz.f48.name, by decide, Tryz.func48.trans (congrArg some (by kernel_rfl))⟩
 f7 := ⟨Tryz.f94.name, by decide, Tryz.func94.trans (congrArg some (by kernel_rfl))⟩
 f8 := Tryz.func73.trans (congrArg some (by kernel_rfl))
 f10 := ⟨Tryz.f135.name, by decide, Tryz.func135.trans (congrArg some (by kernel_rfl))⟩
 f11 := ⟨Tryz.f136.name, by decide, Tryz.func136.trans (congrArg some (by kernel_rfl))⟩
 f12 := ⟨Tryz.f137.name, by decide, Tryz.func137.trans (congrArg some (by kernel_rfl))⟩
 f13 := ⟨Tryz.f138.name, by decide, Tryz.func138.trans (congrArg some (by kernel_rfl))⟩
 f14 := ⟨Tryz.f139.name, by decide, Tryz.func139.trans (congrArg some (by kernel_rfl))⟩
 f15 := ⟨Tryz.f140.name, by decide, Tryz.func140.trans (congrArg some (by kernel_rfl))⟩
 f16 := ⟨Tryz.f141.name, by decide, Tryz.func141.trans (congrArg some (by kernel_rfl))⟩
 f17 := ⟨Tryz.f142.name, by decide, Tryz.func142.trans (congrArg some (by kernel_rfl))⟩
 f18 := ⟨Tryz.f143.name, by decide, Tryz.func143.trans (congrArg some (by kernel_rfl))⟩
 f19 := Tryz.func120.trans (congrArg some (by kernel_rfl))
 f20 := Tryz.func121.trans (congrArg some (by kernel_rfl))
 f30 := ⟨Tryz.f180.name, by decide, Tryz.func180.trans (congrArg some (by kernel_rfl))⟩
 f31 := Tryz.func172.trans (congrArg some (by kernel_rfl))
 f32 := Tryz.func173.trans (congrArg some (by kernel_rfl))
 f33 := ⟨Tryz.f181.name, by decide, Tryz.func181.trans (congrArg some (by kernel_rfl))⟩
 f34 := ⟨Tryz.f182.name, by decide, Tryz.func182.trans (congrArg some (by kernel_rfl))⟩
 f35 := ⟨Tryz.f183.name, by decide, Tryz.func183.trans (congrArg some (by kernel_rfl))⟩
 f40 := ⟨Tryz.f208.name, by decide, Tryz.func208.trans (congrArg some (by kernel_rfl))⟩
 t0 := Tryz.underlying0
 a0 := Tryz.isAgg0
 z0 := Tryz.sizeOf0
 v0 := Tryz.zeroValue0
 t3 := Tryz.underlying3
 a3 := Tryz.isAgg3
 z3 := Tryz.sizeOf3
 v3 := Tryz.zeroValue3
 t4 := Tryz.underlying4
 a4 := Tryz.isAgg4
 z4 := Tryz.sizeOf4
 v4 := Tryz.zeroValue4
 t5 := Tryz.underlying5
 a5 := Tryz.isAgg5
 z5 := Tryz.sizeOf5
 v5 := Tryz.zeroValue5
 t9 := Tryz.underlying9
 a9 := Tryz.isAgg9
 z9 := Tryz.sizeOf9
 v9 := Tryz.zeroValue9
 t22 := Tryz.underlying31
 a22 := Tryz.isAgg31
 z22 := Tryz.sizeOf31
 v22 := Tryz.zeroValue31
 t23 := Tryz.underlying31
 a23 := Tryz.isAgg31
 z23 := Tryz.sizeOf31
 v23 := Tryz.zeroValue31
 t25 := Tryz.underlying3
 a25 := Tryz.isAgg3
 z25 := Tryz.sizeOf3
 v25 := Tryz.zeroValue3
 t32 := Tryz.underlying99
 a32 := Tryz.isAgg99
 z32 := Tryz.sizeOf99
 v32 := Tryz.zeroValue99
 t35 := Tryz.underlying128
 a35 := Tryz.isAgg128
 z35 := Tryz.sizeOf128
 v35 := Tryz.zeroValue128
 t36 := Tryz.underlying129
 a36 := Tryz.isAgg129
 z36 := Tryz.sizeOf129
 v36 := Tryz.zeroValue129
 t41 := Tryz.underlying28
 a41 := Tryz.isAgg28
 z41 := Tryz.sizeOf28
 v41 := Tryz.zeroValue28
 t44 := Tryz.underlying135
 a44 := Tryz.isAgg135
 z44 := Tryz.sizeOf135
 v44 := Tryz.zeroValue135
 t46 := Tryz.underlying137
 a46 := Tryz.isAgg137
 z46 := Tryz.sizeOf137
 v46 := Tryz.zeroValue137
 t53 := Tryz.underlying175
 a53 := Tryz.isAgg175
 z53 := Tryz.sizeOf175
 v53 := Tryz.zeroValue175
 t57 := Tryz.underlying179
 a57 := Tryz.isAgg179
 z57 := Tryz.sizeOf179
 v57 := Tryz.zeroValue179
 t63 := Tryz.underlying195
 a63 := Tryz.isAgg195
 z63 := Tryz.sizeOf195
 v63 := Tryz.zeroValue195
 t64 := Tryz.underlying196
 a64 := Tryz.isAgg196
 z64 := Tryz.sizeOf196
 v64 := Tryz.zeroValue196 }
def Tryz.laysSortFI_ren : Go.Shelf.Ren := ⟨fun | 6 => 198 | 15 => 73 | 14 => 218 | 28 => 120 | 29 => 121 | 20 => 224 | 21 => 225 | 22 => 226 | 23 => 227 | 24 => 228 | 25 => 229 | 26 => 230 | 27 => 231 | 46 => 232 | 47 => 172 | 48 => 173 | 49 => 233 | 50 => 234 | 57 => 235 | n => n, fun | 22 => 56 | 24 => 31 | 25 => 194 | 3 => 3 | 39 => 99 | 0 => 0 | 53 => 135 | 55 => 137 | 4 => 4 | 46 => 129 | 45 => 128 | 50 => 28 | 5 => 5 | 9 => 9 | 66 => 175 | 70 => 179 | 76 => 195 | 77 => 196 | n => n, fun | n => n⟩
theorem Tryz.laysSortFI : Go.Proofs.SlLaysF.n6 Tryz.prog Tryz.laysSortFI_ren := {
 mixed := by kernel_rfl
 f6 := ⟨Tryz.f198.name, by decide, Tryz.func198.trans (congrArg some (by kernel_rfl))⟩
 f14 := ⟨Tryz.f218.name, by decide, Tryz.func218.trans (congrArg some (by kernel_rfl))⟩
 f15 := Tryz.func73.trans (congrArg some (by kernel_rfl))
 f20 := ⟨Tryz.f224.name, by decide, Tryz.func224.trans (congrArg some (by kernel_rfl))⟩
 f21 := ⟨Tryz.f225.name, by decide, Tryz.func225.trans (congrArg some (by kernel_rfl))⟩
 f22 := ⟨Tryz.f226.name, by decide, Tryz.func226.trans (congrArg some (by kernel_rfl))⟩
 f23 := ⟨Tryz.f227.name, by decide, Tryz.func227.trans (congrArg some (by kernel_rfl))⟩
 f24 := ⟨Tryz.f228.name, by decide, Tryz.func228.trans (congrArg some (by kernel_rfl))⟩
 f25 := ⟨Tryz.f229.name, by decide, Tryz.func229.trans (congrArg some (by kernel_rfl))⟩
 f26 := ⟨Tryz.f230.name, by decide, Tryz.func230.trans (congrArg some (by kernel_rfl))⟩
 f27 := ⟨Tryz.f231.name, by decide, Tryz.func231.trans (congrArg some (by kernel_rfl))⟩
 f28 := Tryz.func120.trans (congrArg some (by kernel_rfl))
 f29 := Tryz.func121.trans (congrArg some (by kernel_rfl))
 f46 := ⟨Tryz.f232.name, by decide, Tryz.func232.trans (congrArg some (by kernel_rfl))⟩
 f47 := Tryz.func172.trans (congrArg some (by kernel_rfl))
 f48 := Tryz.func173.trans (congrArg some (by kernel_rfl))
 f49 := ⟨Tryz.f233.name, by decide, Tryz.func233.trans (congrArg some (by kernel_rfl))⟩
 f50 := ⟨Tryz.f234.name, by decide, Tryz.func234.trans (congrArg some (by kernel_rfl))⟩
 f57 := ⟨Tryz.f235.name, by decide, Tryz.func235.trans (congrArg some (by kernel_rfl))⟩
 t0 := Tryz.underlying0
 a0 := Tryz.isAgg0
 z0 := Tryz.sizeOf0
 v0 := Tryz.zeroValue0
 t3 := Tryz.underlying3
 a3 := Tryz.isAgg3
 z3 := Tryz.sizeOf3
 v3 := Tryz.zeroValue3
 t4 := Tryz.underlying4
 a4 := Tryz.isAgg4
 z4 := Tryz.sizeOf4
 v4 := Tryz.zeroValue4
 t5 := Tryz.underlying5
 a5 := Tryz.isAgg5
 z5 := Tryz.sizeOf5
 v5 := Tryz.zeroValue5
 t9 := Tryz.underlying9
 a9 := Tryz.isAgg9
 z9 := Tryz.sizeOf9
 v9 := Tryz.zeroValue9
 t22 := Tryz.underlying56
 a22 := Tryz.isAgg56
 z22 := Tryz.sizeOf56
 v22 := Tryz.zeroValue56
 a24 := Tryz.isAgg31
 z24 := Tryz.sizeOf31
 t25 := Tryz.underlying194
 a25 := Tryz.isAgg194
 z25 := Tryz.sizeOf194
 v25 := Tryz.zeroValue194
 t39 := Tryz.underlying99
 a39 := Tryz.isAgg99
 z39 := Tryz.sizeOf99
 v39 := Tryz.zeroValue99
 t45 := Tryz.underlying128
 a45 := Tryz.isAgg128
 z45 := Tryz.sizeOf128
 v45 := Tryz.zeroValue128
 t46 := Tryz.underlying129
 a46 := Tryz.isAgg129
 z46 := Tryz.sizeOf129
 v46 := Tryz.zeroValue129
 t50 := Tryz.underlying28
 a50 := Tryz.isAgg28
 z50 := Tryz.sizeOf28
 v50 := Tryz.zeroValue28
 t53 := Tryz.underlying135
 a53 := Tryz.isAgg135
 z53 := Tryz.sizeOf135
 v53 := Tryz.zeroValue135
 t55 := Tryz.underlying137
 a55 := Tryz.isAgg137
 z55 := Tryz.sizeOf137
 v55 := Tryz.zeroValue137
 t66 := Tryz.underlying175
 a66 := Tryz.isAgg175
 z66 := Tryz.sizeOf175
 v66 := Tryz.zeroValue175
 t70 := Tryz.underlying179
 a70 := Tryz.isAgg179
 z70 := Tryz.sizeOf179
 v70 := Tryz.zeroValue179
 t76 := Tryz.underlying195
 a76 := Tryz.isAgg195
 z76 := Tryz.sizeOf195
 v76 := Tryz.zeroValue195
 t77 := Tryz.underlying196
 a77 := Tryz.isAgg196
 z77 := Tryz.sizeOf196
 v77 := Tryz.zeroValue196 }
end Go.Proofs
namespace Go.Proofs.YtjohcjkidoalkaaGreatDoor
open Go.RowKit Go.Sort Go.PW.PrintWords Go.PW.PrintLast Go.PW.PrintMore
theorem Zee {α : Type} [Inhabited α] {enc : α → Value} {w : World} {base e g cap : Nat} {xs : List α} (h : w.ownsRow base e 1 (.slice (some ⟨g, 0, none⟩) xs.length cap) xs.length (xs.map enc)) :
  Holds enc w g 0 xs.toArray ∧ (xs ≠ [] → g < w.heap.size) ∧ base ≤ g := by
 obtain ⟨_, h2⟩ := h
 rcases h2 with ⟨hv, _⟩ | ⟨g', cap', cur, hv, hb, hh, hn, hc, hs, ht⟩
 ·cases hv
 ·injection hv with ha _ hcap
  injection ha with ha
  injection ha with hg _ _
  subst hg hcap
  refine ⟨fun j hj => ?_, fun _ => (Array.getElem?_eq_some_iff.1 hh).1, hb⟩
  have hj' : j < xs.length := by simpa using hj
  have hcell : cur.toList[j]? = some (enc xs[j]!) := by
   have h3 : (cur.toList.take (xs.length * 1))[j]? = (xs.map enc)[j]? := by rw [ht]
   rw [List.getElem?_take_of_lt (by omega), List.getElem?_map, List.getElem?_eq_getElem hj'] at h3
   rw [h3, getElem!_pos xs j hj']; rfl
  refine ⟨?_, by simp [World.frozen?, hh]⟩
  have : (xs.toArray)[j]! = xs[j]! := by simp
  rw [this]
  simp only [World.cell?, hh, Nat.zero_add]
  simpa using hcell
theorem Zed {α : Type} [Inhabited α] {enc : α → Value} {w w' : World} {base e g cap : Nat} {xs ys : List α} (hx : xs ≠ []) (hl : ys.length = xs.length)
  (h : w.ownsRow base e 1 (.slice (some ⟨g, 0, none⟩) xs.length cap) xs.length (xs.map enc)) {n : Nat} {os : Array Obj} (hw : w' = grow (putRow enc (Sort.ahead w n) g 0 ys.toArray) os) :
  w'.ownsRow base e 1 (.slice (some ⟨g, 0, none⟩) xs.length cap) xs.length (ys.map enc) ∧ w.heap.size ≤ w'.heap.size ∧ ∀ k, k < w.heap.size → k ≠ g → w'.heap[k]? = w.heap[k]? := by
 obtain ⟨_, h2⟩ := h
 rcases h2 with ⟨hv, _⟩ | ⟨g', cap', cur, hv, hb, hh, hn, hc, hs, ht⟩
 ·cases hv
 ·injection hv with ha _ hcap
  injection ha with ha
  injection ha with hg _ _
  subst hg hcap
  have hg' : g < w.heap.size := (Array.getElem?_eq_some_iff.1 hh).1
  have hput : (putRow enc (Sort.ahead w n) g 0 ys.toArray).heap[g]? = some (.cells (putCells enc 0 ys.toArray cur) e (0, 0)) := by
   simp [putRow, mapBlock, Array.getElem?_modify, hh]
   rfl
  have hw2 : ∀ k, k < w.heap.size → w'.heap[k]? = (putRow enc (Sort.ahead w n) g 0 ys.toArray).heap[k]? := by
   intro k hk
   subst hw
   simp only [grow]
   rw [Array.getElem?_append_left (by simpa using hk)]
  refine ⟨⟨by simp [hl], .inr ⟨g, cap, putCells enc 0 ys.toArray cur, rfl, hb, (hw2 g hg').trans hput, hn, hc, by simp [putCells, hs], ?_⟩⟩, by subst hw; simp, fun k hk hne => ?_⟩
  ·apply List.ext_getElem?
   intro j
   by_cases hj : j < xs.length
   ·have hj2 : j < ys.length := by omega
    have hjc : j < cur.size := by omega
    rw [List.getElem?_take_of_lt (by omega)]
    simp only [putCells, Array.toList_mapIdx, List.getElem?_mapIdx, List.getElem?_map]
    rw [List.getElem?_eq_getElem (by simpa using hjc), List.getElem?_eq_getElem hj2]
    simp [hj2]
   ·rw [List.getElem?_eq_none (by simp; omega), List.getElem?_eq_none (by simp; omega)]
  ·rw [hw2 k hk]
   simp [putRow, mapBlock, Array.getElem?_modify, Ne.symm hne]
theorem Zeg {α : Type} [Inhabited α] {enc : α → Value} {w0 w w' : World} {g n : Nat} {d : Array α} {os : Array Obj} (hB : Below w0.heap.size w0 w) (hw : w' = grow (putRow enc (Sort.ahead w n) g 0 d) os)
  (h2 : w.heap.size ≤ w'.heap.size) (h3 : ∀ k, k < w.heap.size → k ≠ g → w'.heap[k]? = w.heap[k]?) (hg : w0.heap.size ≤ g) : Below w0.heap.size w0 w' := by
 refine ⟨?_, ?_, ?_, Nat.le_trans hB.size h2, fun k hk => (h3 k (Nat.lt_of_lt_of_le hk hB.size) (by omega)).trans (hB.block k hk)⟩
 ·subst hw; exact hB.os
 ·subst hw; exact hB.tape
 ·subst hw; exact hB.output
theorem Zlt : ∃ i, Tryz.prog.toTables.info? 5 = some i ∧ i.zero = some (.int .u8 0) ∧ i.size = 1 ∧ i.bytes = 1 := by
 have h1 : (Tryz.prog.toTables.info? 5).bind (·.zero) = some (.int .u8 0) := by kernel_rfl
 have h2 : (Tryz.prog.toTables.info? 5).map (·.size) = some 1 := by kernel_rfl
 have h3 : (Tryz.prog.toTables.info? 5).map (·.bytes) = some 1 := by kernel_rfl
 generalize Tryz.prog.toTables.info? 5 = o at h1 h2 h3
 cases o with
 | none => cases h1
 | some i => exact ⟨i, rfl, h1, by simpa using h2, by simpa using h3⟩
def Zbz.f (l0 : List Int) : Option (List Int) := if l0 ≠ [] ∧ l0.length ≤ 140737488355328 then some l0 else none
theorem Zbz.calls (A0 : Option Addr) (c0 : Nat) (l0 : List Int) (r : List Int) (w : World) (hr0 : Kd.C (Kd.int .u8) w A0 l0.length l0) (hc0 : l0.length ≤ c0) (h : Zbz.f l0 = some r) :
  Calls Tryz.prog 215 #[.slice A0 l0.length c0] w fun e w' => ∃ u, e = .returned u ∧ Kd.R (Kd.int .u8) 5 w' w.heap.size (fun _ => True) u r ∧ Below w.heap.size w w' := by
 unfold Zbz.f at h
 split at h
 ·rename_i hne
  obtain rfl := Option.some.inj h
  obtain ⟨_, hm0, hx⟩ := Zd9 hr0
  rcases hx with rfl | ⟨b1, o1, rfl, _, hcx⟩
  ·exact absurd rfl hne.1
  obtain ⟨i0, hi, hz, hs, hb⟩ := Zlt
  refine (AnyE.slices_Clone Tryz.laysCloneB i0 (.int .u8 0) 1 1 hi hz hs hb rfl (by omega) Tryz.sizeOf5 b1 o1 l0.length c0 (encs (Value.int .u8) l0) w (by simp [encs]) hm0 (by omega) ?_ ?_).mono ?_
  ·intro j u hj
   simp only [encs, List.getElem?_map, Option.map_eq_some_iff] at hj
   obtain ⟨x, hx, rfl⟩ := hj
   exact hcx j x hx
  ·intro u hu
   simp only [encs, List.mem_map] at hu
   obtain ⟨x, _, rfl⟩ := hu
   rfl
  ·rintro e w' ⟨v', he, ho, _, hb⟩
   exact ⟨v', he, Kd.R_of_own ho (fun _ _ => trivial), hb⟩
 ·cases h
def Zb7.f (l : List Int) : Option Int := if l ≠ [] then some (Lib.minOf l) else none
theorem Zb7.calls (A0 : Option Addr) (c0 : Nat) (l0 : List Int) (r : Int) (w : World) (hr0 : Kd.C (Kd.int .i64) w A0 l0.length l0) (hc0 : l0.length ≤ c0) (h : Zb7.f l0 = some r) :
  Calls Tryz.prog 200 #[.slice A0 l0.length c0] w fun e w' => e = .returned (.int .i64 r) ∧ Za2 w w' := by
 unfold Zb7.f at h
 split at h
 ·rename_i hne
  obtain rfl := Option.some.inj h
  obtain ⟨_, hm0, hx⟩ := Zd9 hr0
  rcases hx with rfl | ⟨b1, o1, rfl, _, hcx⟩
  ·exact absurd rfl hne
  have := Any.slices_Min_int Tryz.lays114 b1 o1 l0.length c0 l0 w (List.length_pos_iff.2 hne) (Nat.le_refl _) hm0
   (fun j hj => hcx j _ (by simp [List.getD_eq_getElem?_getD, List.getElem?_eq_getElem hj]))
  rw [List.take_length] at this
  exact this.mono fun e w' ⟨he, hw⟩ => ⟨he, hw ▸ Za2.refl _⟩
 ·cases h
def Zcr.f (l : List Int) (x : Int) : Option Bool := some (l.contains x)
theorem Zcr.calls (A0 : Option Addr) (c0 : Nat) (l0 : List Int) (a1 : Int) (r : Bool) (w : World) (hr0 : Kd.C (Kd.int .i64) w A0 l0.length l0) (hc0 : l0.length ≤ c0) (h : Zcr.f l0 a1 = some r) :
  Calls Tryz.prog 179 #[.slice A0 l0.length c0, .int .i64 a1] w fun e w' => e = .returned (.bool r) ∧ Za2 w w' := by
 obtain rfl := Option.some.inj h
 obtain ⟨_, hm0, hx⟩ := Zd9 hr0
 rcases hx with rfl | ⟨b1, o1, rfl, _, hcx⟩
 ·exact (Any.slices_Contains_int_empty Tryz.lays107 A0 c0 a1 w).mono fun e w' ⟨he, hw⟩ => ⟨he, hw ▸ Za2.refl _⟩
 have := Any.slices_Contains_int Tryz.lays107 b1 o1 l0.length c0 l0 a1 w (Nat.le_refl _) hm0
  (fun j hj => hcx j _ (by simp [List.getD_eq_getElem?_getD, List.getElem?_eq_getElem hj]))
 rw [List.take_length] at this
 exact this.mono fun e w' ⟨he, hw⟩ => ⟨he, hw ▸ Za2.refl _⟩
theorem info_int : ∃ i, Tryz.prog.toTables.info? 3 = some i ∧ i.zero = some (.int .i64 0) ∧ i.size = 1 ∧ i.bytes = 8 := by
 have h1 : (Tryz.prog.toTables.info? 3).bind (·.zero) = some (.int .i64 0) := by kernel_rfl
 have h2 : (Tryz.prog.toTables.info? 3).map (·.size) = some 1 := by kernel_rfl
 have h3 : (Tryz.prog.toTables.info? 3).map (·.bytes) = some 8 := by kernel_rfl
 generalize Tryz.prog.toTables.info? 3 = o at h1 h2 h3
 cases o with
 | none => cases h1
 | some i => exact ⟨i, rfl, h1, by simpa using h2, by simpa using h3⟩
def Zbo.f (l0 : List Int) : Option (List Int) := if l0 ≠ [] ∧ l0.length ≤ 14073748835532 then some l0 else none
theorem Zbo.calls (A0 : Option Addr) (c0 : Nat) (l0 : List Int) (r : List Int) (w : World) (hr0 : Kd.C (Kd.int .i64) w A0 l0.length l0) (hc0 : l0.length ≤ c0) (h : Zbo.f l0 = some r) :
  Calls Tryz.prog 50 #[.slice A0 l0.length c0] w fun e w' => ∃ u, e = .returned u ∧ Kd.R (Kd.int .i64) 3 w' w.heap.size (fun _ => True) u r ∧ Below w.heap.size w w' := by
 unfold Zbo.f at h
 split at h
 ·rename_i hne
  obtain rfl := Option.some.inj h
  obtain ⟨_, hm0, hx⟩ := Zd9 hr0
  rcases hx with rfl | ⟨b1, o1, rfl, _, hcx⟩
  ·exact absurd rfl hne.1
  obtain ⟨i0, hi, hz, hs, hb⟩ := info_int
  refine (AnyE.slices_Clone Tryz.laysCloneI i0 (.int .i64 0) 1 8 hi hz hs hb rfl (by omega) Tryz.sizeOf3 b1 o1 l0.length c0 (encs (Value.int .i64) l0) w (by simp [encs]) hm0 (by omega) ?_ ?_).mono ?_
  ·intro j u hj
   simp only [encs, List.getElem?_map, Option.map_eq_some_iff] at hj
   obtain ⟨x, hx, rfl⟩ := hj
   exact hcx j x hx
  ·intro u hu
   simp only [encs, List.mem_map] at hu
   obtain ⟨x, _, rfl⟩ := hu
   rfl
  ·rintro e w' ⟨v', he, ho, _, hb⟩
   exact ⟨v', he, Kd.R_of_own ho (fun _ _ => trivial), hb⟩
 ·cases h
def sortI (l : List Int) : List Int := l.mergeSort fun x y => decide (x ≤ y)
def Zbx.f (l : List Int) : Option (List Int) := if l.length < 4611686018427387904 then some (sortI l) else none
theorem Zbx.calls (P0_ : Nat → Prop) (u9000_ : Value) (l0 : List Int) (r : List Int) (w0 w : World) (hB : Below w0.heap.size w0 w) (ho0 : Kd.R (Kd.int .i64) 3 w w0.heap.size P0_ u9000_ l0) (h : Zbx.f l0 = some r) :
  Calls Tryz.prog 48 #[u9000_] w fun e w' => e = .returned (.tuple #[]) ∧ Kd.R (Kd.int .i64) 3 w' w0.heap.size (fun k_ => (P0_ k_ ∨ w.heap.size ≤ k_)) u9000_ r ∧ Below w0.heap.size w0 w' ∧ Kept w w' (fun k_ => P0_ k_) := by
 unfold Zbx.f at h
 split at h
 ·rename_i hlen
  obtain rfl := Option.some.inj h
  by_cases hx : l0 = []
  ·subst hx
   obtain ⟨A, c, rfl, _⟩ := Kd.R_reads ho0
   refine (AnyM.slices_Sort_int_none Tryz.laysSortI A c w).mono fun e w' ⟨he, hw⟩ => ?_
   subst hw
   exact ⟨he, Kd.R_mono (by simpa [sortI] using ho0) (fun _ hk => .inl hk), hB, Kept.refl _ _⟩
  ·have hpos : 0 < l0.length := List.length_pos_iff.2 hx
   obtain ⟨g, cap, rfl, hbg, hglt, _⟩ := Kd.R_form ho0 hpos
   have hown := Kd.own_of_R ho0
   obtain ⟨hH, _, _⟩ := Zee hown
   refine (AnyM.slices_Sort_int Tryz.laysSortI g 0 cap l0 w hH hglt (by simpa using hlen)).mono fun e w' ⟨he, n, os, hw⟩ => ?_
   obtain ⟨h1, h2, h3⟩ := Zed hx (by simp) hown hw
   have hk : ∀ k, k < w.heap.size → ¬ P0_ k → w'.heap[k]? = w.heap[k]? := fun k hk hn => h3 k hk (fun hg => hn (hg ▸ ho0.1 g (by simp [Value.ownBlock])))
   refine ⟨he, Kd.R_of_own (enc := Value.int .i64) ?_ (fun k hk => .inl (ho0.1 k hk)), Zeg hB hw h2 h3 hbg, h2, hk⟩
   rw [show (sortI l0).length = l0.length by simp [sortI]]
   exact h1
 ·cases h
theorem Zkp {w : World} {base e g n m cap : Nat} {xs : List Value} (h : w.ownsRow base e 1 (.slice (some ⟨g, 0, none⟩) n cap) n xs) (hm : m ≤ n) : w.ownsRow base e 1 (.slice (some ⟨g, 0, none⟩) m cap) m (xs.take m) := by
 obtain ⟨hl, h2⟩ := h
 rcases h2 with ⟨hv, _⟩ | ⟨g', cap', cur, hv, hb, hh, hn, hc, hs, ht⟩
 ·cases hv
 ·injection hv with ha _ hcap
  injection ha with ha
  injection ha with hg _ _
  subst hg hcap
  refine ⟨by simp; omega, .inr ⟨g, cap, cur, rfl, hb, hh, by omega, hc, hs, ?_⟩⟩
  rw [← ht, List.take_take]
  congr 1
  omega
def Zdl (l : List Int) : List Int := Lib.compactUpTo l.toArray l.toArray.size
theorem Zg6 (l : List Int) : (Zdl l).length ≤ l.length := by
 have := List.length_filter_le (Lib.keeps l.toArray) (List.range l.toArray.size)
 simpa [Zdl, Lib.compactUpTo] using this
def Za9.f (l : List Int) : Option (List Int) := if l ≠ [] ∧ l.length ≤ 9223372036854775807 then some (Zdl l) else none
theorem Za9.calls (P0_ : Nat → Prop) (u9000_ : Value) (l0 : List Int) (r : List Int) (w0 w : World) (hB : Below w0.heap.size w0 w) (ho0 : Kd.R (Kd.int .i64) 3 w w0.heap.size P0_ u9000_ l0) (h : Za9.f l0 = some r) :
  Calls Tryz.prog 49 #[u9000_] w fun e w' => ∃ v0_ : Value, e = .returned (v0_) ∧ Kd.R (Kd.int .i64) 3 w' w0.heap.size (fun k_ => (P0_ k_ ∨ w.heap.size ≤ k_)) v0_ r ∧ Below w0.heap.size w0 w' ∧ Kept w w' (fun k_ => P0_ k_) := by
 unfold Za9.f at h
 split at h
 ·rename_i hne
  obtain rfl := Option.some.inj h
  have hpos : 0 < l0.length := List.length_pos_iff.2 hne.1
  obtain ⟨g, cap, rfl, hbg, hglt, _⟩ := Kd.R_form ho0 hpos
  have hown := Kd.own_of_R ho0
  obtain ⟨hH, _, _⟩ := Zee hown
  obtain ⟨_, _, he3, hcap, _⟩ := Kd.R_reads ho0
  injection he3 with _ _ hcc
  subst hcc
  have := AnyE.slices_Compact Tryz.laysCompactI (Value.int .i64) (fun _ => rfl) (EqlAt.int _ _ .i64) (NeqAt.int _ _ .i64) 0 (fun w => Tryz.zeroValue3 w) g 0 cap l0.toArray w hH (by simpa using hne.2) (by simpa using hcap)
  rw [List.size_toArray] at this
  refine this.mono fun e w' ⟨he, q, hw⟩ => ?_
  have hlen : (Lib.compactUpTo l0.toArray l0.length ++ List.replicate (l0.length - (Lib.compactUpTo l0.toArray l0.length).length) 0).length = l0.length := by
   have := Zg6 l0
   simp [Zdl] at this
   simp; omega
  obtain ⟨h1, h2, h3⟩ := Zed (os := #[]) hne.1 hlen hown (by simpa using hw)
  have hk : ∀ k, k < w.heap.size → ¬ P0_ k → w'.heap[k]? = w.heap[k]? := fun k hk hn => h3 k hk (fun hg => hn (hg ▸ ho0.1 g (by simp [Value.ownBlock])))
  refine ⟨_, he, Kd.R_of_own (enc := Value.int .i64) ?_ (fun k hk => .inl (ho0.1 k (by simpa [Value.ownBlock] using hk))), Zeg (os := #[]) hB (by simpa using hw) h2 h3 hbg, h2, hk⟩
  have h4 := Zkp h1 (m := (Zdl l0).length) (Zg6 l0)
  have h5 : (List.map (Value.int .i64) (Lib.compactUpTo l0.toArray l0.length ++ List.replicate (l0.length - (Lib.compactUpTo l0.toArray l0.length).length) 0)).take (Zdl l0).length = encs (Value.int .i64) (Zdl l0) := by
   simp [Zdl, encs]
  rw [h5] at h4
  simpa [Zdl] using h4
 ·cases h
end Go.Proofs.YtjohcjkidoalkaaGreatDoor
namespace Go.Proofs
open Go.Shelf
def Tryz.lays112_ren : Go.Shelf.Ren := ⟨fun | 112 => 217 | n => n, fun | 28 => 31 | 3 => 3 | 4 => 4 | 0 => 0 | n => n, fun | n => n⟩
theorem Tryz.lays112 : Go.Proofs.Lays.n112 Tryz.prog Tryz.lays112_ren := {
 mixed := by kernel_rfl
 f112 := Tryz.func217.trans (congrArg some (by kernel_rfl))
 t0 := Tryz.underlying0
 a0 := Tryz.isAgg0
 z0 := Tryz.sizeOf0
 v0 := Tryz.zeroValue0
 t3 := Tryz.underlying3
 a3 := Tryz.isAgg3
 z3 := Tryz.sizeOf3
 v3 := Tryz.zeroValue3
 t4 := Tryz.underlying4
 a4 := Tryz.isAgg4
 z4 := Tryz.sizeOf4
 v4 := Tryz.zeroValue4
 t28 := Tryz.underlying31
 a28 := Tryz.isAgg31
 z28 := Tryz.sizeOf31
 v28 := Tryz.zeroValue31 }
end Go.Proofs
namespace Go.Proofs.YtjohcjkidoalkaaGreatDoor
open Go.RowKit Go.Sort Go.PW.PrintWords Go.PW.PrintLast Go.PW.PrintMore
def Za8.f (l : List Int) : Option (List Int) := if l.length ≤ 9223372036854775807 then some l.reverse else none
theorem Za8.calls (P0_ : Nat → Prop) (u9000_ : Value) (l0 : List Int) (r : List Int) (w0 w : World) (hB : Below w0.heap.size w0 w) (ho0 : Kd.R (Kd.int .i64) 3 w w0.heap.size P0_ u9000_ l0) (h : Za8.f l0 = some r) :
  Calls Tryz.prog 217 #[u9000_] w fun e w' => e = .returned (.tuple #[]) ∧ Kd.R (Kd.int .i64) 3 w' w0.heap.size (fun k_ => (P0_ k_ ∨ w.heap.size ≤ k_)) u9000_ r ∧ Below w0.heap.size w0 w' ∧ Kept w w' (fun k_ => P0_ k_) := by
 unfold Za8.f at h
 split at h
 ·rename_i hlen
  obtain rfl := Option.some.inj h
  by_cases hx : l0 = []
  ·subst hx
   obtain ⟨A, c, rfl, _⟩ := Kd.R_reads ho0
   refine (Any.slices_Reverse_int_empty Tryz.lays112 A c w).mono fun e w' ⟨he, hw⟩ => ?_
   subst hw
   exact ⟨he, Kd.R_mono (by simpa using ho0) (fun _ hk => .inl hk), hB, Kept.refl _ _⟩
  ·have hpos : 0 < l0.length := List.length_pos_iff.2 hx
   obtain ⟨g, cap, rfl, hbg, hglt, _⟩ := Kd.R_form ho0 hpos
   have hown := Kd.own_of_R ho0
   obtain ⟨hH, _, _⟩ := Zee hown
   refine (Any.slices_Reverse_int Tryz.lays112 g 0 cap l0 w hH hlen).mono fun e w' ⟨he, n, hw⟩ => ?_
   obtain ⟨h1, h2, h3⟩ := Zed (os := #[]) (ys := l0.reverse) hx (by simp) hown (by simpa using hw)
   have hk : ∀ k, k < w.heap.size → ¬ P0_ k → w'.heap[k]? = w.heap[k]? := fun k hk hn => h3 k hk (fun hg => hn (hg ▸ ho0.1 g (by simp [Value.ownBlock])))
   refine ⟨he, Kd.R_of_own (enc := Value.int .i64) ?_ (fun k hk => .inl (ho0.1 k hk)), Zeg (os := #[]) hB (by simpa using hw) h2 h3 hbg, h2, hk⟩
   rw [List.length_reverse]
   exact h1
 ·cases h
theorem Zlm (A0 : Option Addr) (c0 : Nat) (l0 : List Int) (A1 : Option Addr) (c1 : Nat) (l1 : List Int) (w : World) (hr0 : Kd.C (Kd.int .i64) w A0 l0.length l0) (hc0 : l0.length ≤ c0) (hr1 : Kd.C (Kd.int .i64) w A1 l1.length l1) (hc1 : l1.length ≤ c1) (h0 : l0 ≠ []) (h1 : l1 ≠ []) :
  Calls Tryz.prog 199 #[.slice A0 l0.length c0, .slice A1 l1.length c1] w fun e w' => e = .returned (.int .i64 (wrap64 (Lib.minOf l0 - Lib.minOf l1))) ∧ Za2 w w' := by
 have e0 : Zb7.f l0 = some (Lib.minOf l0) := by simp [Zb7.f, h0]
 have e1 : Zb7.f l1 = some (Lib.minOf l1) := by simp [Zb7.f, h1]
 go_enter Tryz.func199, Tryz.ntmps199
 go_wp2_with (first | (go_at_call_of 200 A0; refine (Zb7.calls A0 c0 l0 _ _ hr0 hc0 e0).mono ?_; rintro e w' ⟨rfl, ⟨n, rfl⟩⟩) | (go_at_call_of 200 A1; refine (Zb7.calls A1 c1 l1 _ _ ?_ hc1 e1).mono ?_; exact Kd.C_drewN hr1 _; rintro e w' ⟨rfl, ⟨n, rfl⟩⟩))
 go_ret
 exact ⟨rfl, ⟨_, rfl⟩⟩
def Zh6 (a b : List Int) : Bool := decide (Lib.minOf a ≤ Lib.minOf b)
def Zh5 (l : List (List Int)) : Bool := decide (l.length < 4611686018427387904) && l.all (fun a => decide (a ≠ [] ∧ 0 ≤ Lib.minOf a ∧ Lib.minOf a < 4294967296)) && decide ((l.map Lib.minOf).Pairwise (· ≠ ·))
def Za4.f (l : List (List Int)) : Option (List (List Int)) := if Zh5 l = true then some (l.mergeSort Zh6) else none
theorem swo_of {α : Type} (m : α → Int) : SWO (ltOf fun x y => m x - m y) where
 irrefl x := by simp [ltOf]
 trans x y z h1 h2 := by simp [ltOf] at *; omega
 ntrans x y z h1 h2 := by simp [ltOf] at *; omega
theorem Zhz {α : Type} [Inhabited α] {enc : α → Value} {w : World} {g m : Nat} {dk : Array α} {os : Array Obj} (k : Nat) (hk : k < w.heap.size) (hne : k ≠ g) : (sortWorld enc w g 0 m dk os).heap[k]? = w.heap[k]? := by
 simp only [sortWorld, grow]
 rw [Array.getElem?_append_left (by simpa using hk)]
 simp [putRow, mapBlock, Array.getElem?_modify, Ne.symm hne]
theorem Zkj {x : Int} (h1 : -4294967296 < x) (h2 : x < 4294967296) : wrap64 x = x := by
 unfold wrap64; omega
theorem Zjc {l : List Value} {j : Nat} {v : Value} (h : (l.drop (j * 1)).take 1 = [v]) : l[j]? = some v := by
 rw [Nat.mul_one] at h
 have := congrArg (·[0]?) h
 simpa [List.getElem?_take, List.getElem?_drop] using this
theorem Za4.calls (P0_ : Nat → Prop) (u9000_ : Value) (l0 : List (List Int)) (r : List (List Int)) (w0 w : World) (hB : Below w0.heap.size w0 w) (ho0 : Kd.S (Kd.slice 3 (Kd.int .i64)) 31 w w0.heap.size P0_ u9000_ l0) (h : Za4.f l0 = some r) :
  Calls Tryz.prog 198 #[u9000_, .func (.func 199) #[] #[]] w fun e w' => e = .returned (.tuple #[]) ∧ Kd.S (Kd.slice 3 (Kd.int .i64)) 31 w' w0.heap.size P0_ u9000_ r ∧ Below w0.heap.size w0 w' := by
 unfold Za4.f at h
 split at h
 ·rename_i hok
  obtain rfl := Option.some.inj h
  simp only [Zh5, Bool.and_eq_true, decide_eq_true_eq, List.all_eq_true] at hok
  obtain ⟨⟨hlen, hall⟩, hdis⟩ := hok
  by_cases hx : l0 = []
  ·subst hx
   obtain ⟨A, c, rfl, _⟩ := Kd.S_reads ho0
   refine (AnyF.slices_SortFunc_none { Tryz.laysSortFI with } A c _ w).mono fun e w' ⟨he, hw⟩ => ?_
   subst hw
   exact ⟨he, by simpa using ho0, hB⟩
  ·have hpos : 0 < l0.length := List.length_pos_iff.2 hx
   obtain ⟨g, cap, rfl, hbg, hglt, _⟩ := Kd.S_form ho0 hpos
   obtain ⟨f, hb0, inner, hown, hreps⟩ := ho0
   rw [List.length_zipIdx] at hown
   have hil : inner.length = l0.length := by have := hown.1; simpa [Kd.tag, Kd.slice] using this
   have hel : ∀ i : Fin l0.length, (Kd.int .i64).R 3 w w0.heap.size (fun k => (P0_ k ∧ some k ≠ (Value.slice (some ⟨g, 0, none⟩) l0.length cap).ownBlock) ∧ f k = i.1) (inner[i.1]'(by omega)) l0[i] := by
    intro i
    have hz := hreps.2 i.1 (l0[i], i.1) (Kd.zip_at (List.getElem?_eq_getElem i.2))
    obtain ⟨v, hv, hR⟩ := hz
    have h1 := Zjc hv
    rw [List.getElem?_eq_getElem (by omega)] at h1
    rw [Option.some.inj h1]
    exact hR
   have : Inhabited (Fin l0.length) := ⟨⟨0, hpos⟩⟩
   let enc : Fin l0.length → Value := fun i => inner[i.1]'(by omega)
   have hmap : (List.finRange l0.length).map enc = inner := by
    apply List.ext_getElem
    ·simp [hil]
    ·intro j h1 h2
     simp [enc]
   have hone : OneCell enc := fun i => by
    obtain ⟨A, c, hv, _⟩ := Kd.R_reads (hel i)
    show (inner[i.1]'_).oneCell' = true
    rw [hv]; rfl
   have hown2 : w.ownsRow w0.heap.size 31 1 (.slice (some ⟨g, 0, none⟩) (List.finRange l0.length).length cap) (List.finRange l0.length).length ((List.finRange l0.length).map enc) := by
    rw [List.length_finRange, hmap]; exact hown
   obtain ⟨hH, _, _⟩ := Zee hown2
   let m : Fin l0.length → Int := fun i => Lib.minOf l0[i]
   have hm : ∀ i, l0[i] ≠ [] ∧ 0 ≤ m i ∧ m i < 4294967296 := fun i => by
    have := hall l0[i] (List.getElem_mem _)
    simpa [m] using this
   have hinj : ∀ i j, m i = m j → i = j := by
    intro i j hij
    have hp := List.pairwise_iff_getElem.1 hdis
    rcases Nat.lt_trichotomy i.1 j.1 with h1 | h1 | h1
    ·exact absurd (by simpa [m] using hij) (hp i.1 j.1 (by simp) (by simp) h1)
    ·exact Fin.ext h1
    ·exact absurd (by simpa [m] using hij.symm) (hp j.1 i.1 (by simp) (by simp) h1)
   have hcmp : CmpLays1 Tryz.prog 199 #[] enc (fun x y => m x - m y) g 0 (List.finRange l0.length).toArray.size w := by
    intro q os dk hs x y
    have hst : ∀ z : Fin l0.length, (Kd.int .i64).R 3 (sortWorld enc w g 0 q dk os) w0.heap.size (fun k => (P0_ k ∧ some k ≠ (Value.slice (some ⟨g, 0, none⟩) l0.length cap).ownBlock) ∧ f k = z.1) (enc z) l0[z] := fun z =>
     Kd.R_step (hel z) (fun k ho hk => Zhz k hk (fun he => ho.1.2 (by rw [he]; rfl)))
    obtain ⟨A0, c0, hv0, hl0, hC0⟩ := Kd.R_reads (hst x)
    obtain ⟨A1, c1, hv1, hl1, hC1⟩ := Kd.R_reads (hst y)
    rw [hv0, hv1]
    refine (Zlm A0 c0 _ A1 c1 _ _ hC0 hl0 hC1 hl1 (hm x).1 (hm y).1).mono fun e w' ⟨he, ⟨q', hw⟩⟩ => ⟨?_, q', #[], by rw [hw, grow_empty]⟩
    have hx1 := hm x
    have hy1 := hm y
    rw [he, Zkj (by show -4294967296 < m x - m y; omega) (by show m x - m y < 4294967296; omega)]
   have hsort := Any.slices_SortFunc_total Tryz.laysSortFI enc hone (fun x y => m x - m y) (swo_of m) 199 #[] g 0 cap (List.finRange l0.length).toArray w (enters_of Tryz.func199 (by kernel_rfl) rfl) hcmp hH hglt (by simpa using hlen) (fun x y h1 h2 => hinj x y (by simp [ltOf] at h1 h2; omega))
   rw [List.size_toArray, List.length_finRange] at hsort
   refine hsort.mono fun e w' ⟨he, n, os, hw⟩ => ?_
   let ys : List (Fin l0.length) := (List.finRange l0.length).mergeSort fun x y => !ltOf (fun x y => m x - m y) y x
   have hyl : ys.length = l0.length := by simp [ys]
   have hnd : ys.Nodup := ((List.mergeSort_perm _ _).nodup_iff).2 (List.nodup_finRange _)
   obtain ⟨h1, h2, h3⟩ := Zed (ys := ys) (by rw [Ne, ← List.length_eq_zero_iff, List.length_finRange]; omega) (by simp [ys]) hown2 hw
   have hr : l0.mergeSort Zh6 = ys.map fun i => l0[i] := by
    have hl : l0 = (List.finRange l0.length).map fun i => l0[i] := by
     apply List.ext_getElem
     ·simp
     ·intro j h1 h2
      simp
    conv => lhs; rw [hl]
    symm
    refine List.map_mergeSort fun a _ b _ => ?_
    simp only [ltOf, Zh6, m]
    by_cases hab : Lib.minOf l0[a] ≤ Lib.minOf l0[b]
    ·have hn : ¬ (Lib.minOf l0[b] - Lib.minOf l0[a] < 0) := by omega
     simp only [hab, hn, decide_true, decide_false, Bool.not_false]
    ·have hn : Lib.minOf l0[b] - Lib.minOf l0[a] < 0 := by omega
     simp only [hab, hn, decide_true, decide_false, Bool.not_true]
   have hst : ∀ z : Fin l0.length, (Kd.int .i64).R 3 w' w0.heap.size (fun k => (P0_ k ∧ some k ≠ (Value.slice (some ⟨g, 0, none⟩) l0.length cap).ownBlock) ∧ f k = z.1) (enc z) l0[z] := fun z =>
    Kd.R_step (hel z) (fun k ho hk => h3 k hk (fun he => ho.1.2 (by rw [he]; rfl)))
   refine ⟨he, ?_, Zeg hB hw h2 h3 hbg⟩
   refine ⟨fun k => if h : f k < l0.length then ys.idxOf (⟨f k, h⟩ : Fin l0.length) else l0.length, hb0, ys.map enc, ?_, ?_, ?_⟩
   ·rw [List.length_zipIdx, hr, List.length_map, hyl]
    rw [List.length_finRange] at h1
    exact h1
   ·rw [List.length_zipIdx, hr, List.length_map, List.length_map]; show ys.length = ys.length * 1; omega
   ·intro j p hj
    rw [hr, List.getElem?_zipIdx, List.getElem?_map] at hj
    obtain ⟨x, hx', rfl⟩ := Option.map_eq_some_iff.1 hj
    obtain ⟨i, hi, rfl⟩ := Option.map_eq_some_iff.1 hx'
    refine ⟨enc i, ?_, Kd.R_mono (hst i) fun k hk => ⟨hk.1, ?_⟩⟩
    ·apply List.ext_getElem?
     intro q
     cases q with
     | zero => simp [Kd.tag, Kd.slice, List.getElem?_take, List.getElem?_drop, hi]
     | succ q => simp [Kd.tag, Kd.slice, List.getElem?_take]
    ·have hfi : f k = i.1 := hk.2
     have hj' : j < ys.length := (List.getElem?_eq_some_iff.1 hi).1
     have hij : ys[j] = i := (List.getElem?_eq_some_iff.1 hi).2
     show (if h : f k < l0.length then ys.idxOf (⟨f k, h⟩ : Fin l0.length) else l0.length) = _
     rw [dif_pos (by rw [hfi]; exact i.2)]
     have : (⟨f k, by rw [hfi]; exact i.2⟩ : Fin l0.length) = ys[j] := by rw [hij]; exact Fin.ext hfi
     rw [this]
     simpa using hnd.idxOf_getElem j hj'
 ·cases h
end Go.Proofs.YtjohcjkidoalkaaGreatDoor
