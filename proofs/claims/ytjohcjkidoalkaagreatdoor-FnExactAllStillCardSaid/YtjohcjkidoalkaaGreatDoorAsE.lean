/- Contracts of functions and plain lemmas, for the last text. -/
import Derived.Test.YtjohcjkidoalkaaGreatDoorAsD
set_option linter.unusedVariables false
set_option linter.unusedSimpArgs false
namespace Go.Proofs.YtjohcjkidoalkaaGreatDoor.PA
open Go.RowKit Go.PW.PrintWords Go.PW.PrintLast Go.PW.PrintMore
attribute [local go_sem] Zbo Zbm Zbz Zby Zbd Zbc Zbn Zbl
def Zbp.l0 : Nat → Int → List Int → Int → Int → Option (Int)
 | 0, _, _, _, _ => none
 | k + 1, x3, x9, x10, x11 => if x11 < x10 then (if 0 ≤ x11 then (if x11 < (x9.length : Int) then ((Zdk.f x3 (rd x9 x11)).bind fun t103 => (Zbp.l0 k t103 x9 x10 (wrap64 (x11 + 1)))) else (none)) else (none)) else (some x3)
def Zbp.f (k : Nat) (l0 : List Int) : Option (Int) := if 0 < (l0.length : Int) then (Zbp.l0 k (rd l0 0) l0 (l0.length : Int) 0) else (none)
set_option maxHeartbeats 8000000 in
set_option maxRecDepth 100000 in
theorem Zbp.calls (k : Nat) (A0 : Option Addr) (c0 : Nat) (l0 : List Int) (r : Int) (w : World) (hr0 : Kd.C (Kd.int .i64) w A0 l0.length l0) (hc0 : l0.length ≤ c0) (h : Zbp.f k l0 = some r) :
  Calls Tryz.prog 155 #[.slice A0 l0.length c0] w fun e w' => e = .returned (.int .i64 r) ∧ Za8 w w' := by
 have HR0 := Zad.mk hr0
 have HC0 := Zad.mk hc0
 clear hr0 hc0
 have H : (if 0 < (l0.length : Int) then (Zbp.l0 k (rd l0 0) l0 (l0.length : Int) 0) else (none)) = some r := h
 clear h
 by_cases c2 : 0 < (l0.length : Int)
 ·rw [if_pos c2] at H
  have c2b0 : decide (0 < (l0.length : Int)) = true := decide_eq_true c2
  have c2b1 : decide (0 < l0.length) = true := decide_eq_true (by omega)
  clear c2
  have H' := Zad.mk H
  clear H
  have p101 : 0 ≤ (0 : Int) := (by omega)
  have q101 : 0 < (l0.length : Int) := of_decide_eq_true (by first | (with_reducible assumption) | assumption)
  obtain ⟨ad101, e101, hx101_0⟩ := Kd.at_int HR0.out 0 p101 q101
  cases e101
  have qi101 : (0 < l0.length) = True := eq_true (by omega)
  (try rw [show ((0 : Int)).toNat = 0 from rfl] at hx101_0)
  (try rw [Addr.add_zero'] at hx101_0)
  replace p101 := eq_true p101
  replace q101 := eq_true q101
  go_enter Tryz.func155, Tryz.ntmps155
  go_wp2
  go_loopg [3, 11] k (fun kq v3 v11 w' => ∃ (x3_1 : Int) (x11_1 : Int), v3 = .int .i64 x3_1 ∧ v11 = .int .i64 x11_1 ∧ Zad (Zbp.l0 kq x3_1 l0 (l0.length : Int) x11_1 = some r) ∧ Zad (kq ≤ k) ∧ Za8 w w')
  case atStart => exact ⟨(rd l0 0), (0), (by first | rfl | (simp; done) | (simp [*]; done)), (by first | rfl | (simp; done) | (simp [*]; done)), H', ⟨Nat.le_refl _⟩, by repeat (first | exact Za8.refl _ | apply Za8.step)⟩
  case round =>
   clear H'
   obtain ⟨x3_1, x11_1, rfl, rfl, HA, HK1, ⟨m1, rfl⟩⟩ := hrel
   cases gk with
   | zero => exact absurd HA.out (by simp [Zbp.l0])
   | succ k1 =>
    have H := HA.out
    clear HA
    simp only [Zbp.l0] at H
    by_cases c3 : x11_1 < (l0.length : Int)
    ·rw [if_pos c3] at H
     have c3b0 : decide (x11_1 < (l0.length : Int)) = true := decide_eq_true c3
     clear c3
     by_cases c4 : 0 ≤ x11_1
     ·rw [if_pos c4] at H
      have c4b0 : decide (0 ≤ x11_1) = true := decide_eq_true c4
      clear c4
      by_cases c5 : x11_1 < (l0.length : Int)
      ·rw [if_pos c5] at H
       have c5b0 : decide (x11_1 < (l0.length : Int)) = true := decide_eq_true c5
       clear c5
       replace H := Option.bind_eq_some_iff.mp H
       obtain ⟨t103, A60, H⟩ := H
       replace H : (Zbp.l0 k1 t103 l0 (l0.length : Int) (wrap64 (x11_1 + 1))) = some r := H
       have A6 := Zad.mk A60
       clear A60
       have H' := Zad.mk H
       clear H
       have p102 : 0 ≤ (x11_1 : Int) := of_decide_eq_true (by first | (with_reducible assumption) | assumption)
       have q102 : x11_1 < (l0.length : Int) := of_decide_eq_true (by first | (with_reducible assumption) | assumption)
       obtain ⟨ad102, e102, hx102_0⟩ := Kd.at_int HR0.out x11_1 p102 q102
       obtain rfl : ad101 = ad102 := (by injection e102)
       replace p102 := eq_true p102
       replace q102 := eq_true q102
       go_wp2_with (first | ((with_reducible refine Zau (f := 188) rfl ?_); refine Zbr (some 17) rfl rfl Tryz.func188 (by kernel_rfl) rfl #[.int .i64 x3_1, .int .i64 (rd l0 x11_1)] rfl (by (try simp only [List.map_toArray, List.map_cons, List.map_nil]); first | done | rfl | (simp only [List.length_drop, List.length_take]; rfl)) ?_; (with_reducible refine (Zdk.calls x3_1 (rd l0 x11_1) t103 _ A6.out).mono ?_); rintro e w' ⟨rfl, ⟨nd, rfl⟩⟩; refine ⟨_, rfl, ?_⟩))
       go_roundg k1
       case measure => have := HK1.out; omega
       case rel => exact ⟨(t103), (wrap64 (x11_1 + 1)), (by first | rfl | (simp; done) | (simp [*]; done)), (by first | rfl | (simp; done) | (simp [*]; done)), H', ⟨by have := HK1.out; omega⟩, by repeat (first | exact Za8.refl _ | apply Za8.step)⟩
      ·rw [if_neg c5] at H
       exact absurd H (by simp)
     ·rw [if_neg c4] at H
      exact absurd H (by simp)
    ·rw [if_neg c3] at H
     have c3b0 : decide (x11_1 < (l0.length : Int)) = false := decide_eq_false c3
     clear c3
     obtain rfl := Option.some.inj H
     go_wp2
     go_ret
     exact ⟨by first | rfl | (simp; done) | (simp [*]; done), by repeat (first | exact Za8.refl _ | apply Za8.step)⟩
 ·rw [if_neg c2] at H
  exact absurd H (by simp)
mutual
def Zam.l0 : Nat → Int → List (List Int) → List Int → Int → Int → Int → Int → List Int → Option ((List (List Int)))
 | 0, _, _, _, _, _, _, _, _ => none
 | k + 1, x1, x5, x13, x14, x15, X020, X021, X022 => if x15 < x14 then (if 0 ≤ x15 then (if x15 < (x13.length : Int) then (if (rd x13 x15) = 35 then (Zam.j1 k x1 x5 x15 x13 x14 x15 true X020 X021 X022) else ((Zck.f X020 X021 X022 x15 x1).bind fun t103 => (Zam.j1 k x1 x5 x15 x13 x14 x15 (decide (t103 ≥ 0)) X020 X021 X022))) else (none)) else (none)) else (some x5)
def Zam.j1 : Nat → Int → List (List Int) → Int → List Int → Int → Int → Bool → Int → Int → List Int → Option ((List (List Int)))
 | 0, _, _, _, _, _, _, _, _, _, _ => none
 | k + 1, x1, x5, x6, x13, x14, x15, x28, X020, X021, X022 => if x28 = true then (Zam.l0 k x1 x5 x13 x14 (wrap64 (x15 + 1)) X020 X021 X022) else ((Zck.f X020 X021 X022 x6 (Int.tmod (wrap64 (x1 + 2)) 4)).bind fun t107 => (Zam.l1 k x1 x5 (([x6] : List Int)) t107 x13 x14 x15 X020 X021 X022))
def Zam.l1 : Nat → Int → List (List Int) → List Int → Int → List Int → Int → Int → Int → Int → List Int → Option ((List (List Int)))
 | 0, _, _, _, _, _, _, _, _, _, _ => none
 | k + 1, x1, x5, x8, x9, x13, x14, x15, X020, X021, X022 => if x9 ≥ 0 then (if x8.length < 17592186044416 then ((Zck.f X020 X021 X022 x9 (Int.tmod (wrap64 (x1 + 2)) 4)).bind fun t111 => (Zam.l1 k x1 x5 (x8 ++ [x9]) t111 x13 x14 x15 X020 X021 X022)) else (none)) else (Zam.l2 k x1 x5 x8 0 x13 x14 x15 X020 X021 X022)
def Zam.l2 : Nat → Int → List (List Int) → List Int → Int → List Int → Int → Int → Int → Int → List Int → Option ((List (List Int)))
 | 0, _, _, _, _, _, _, _, _, _, _ => none
 | k + 1, x1, x5, x8, x10, x13, x14, x15, X020, X021, X022 => if x10 < (x5.length : Int) then (if 0 ≤ x10 then ((Zbp.f k (rd_L3 x5 x10)).bind fun t113 => ((Zbp.f k x8).bind fun t114 => (if t113 < t114 then (Zam.l2 k x1 x5 x8 (wrap64 (x10 + 1)) x13 x14 x15 X020 X021 X022) else ((some (([] : List (List Int)) : List (List Int))).bind fun y115 => (if x10 ≤ (x5.length : Int) then ((some (x5.take (x10 : Int).toNat : List (List Int))).bind fun y118 => (if y115.length + y118.length < 5864062014805 then ((some (y115 ++ y118 : List (List Int))).bind fun y123 => (if y123.length < 5864062014805 then ((some (y123 ++ [x8] : List (List Int))).bind fun y126 => ((some (x5.drop (x10 : Int).toNat : List (List Int))).bind fun y129 => (if y126.length + y129.length < 5864062014805 then (Zam.l0 k x1 (y126 ++ y129) x13 x14 (wrap64 (x15 + 1)) X020 X021 X022) else (none)))) else (none))) else (none))) else (none)))))) else (none)) else ((some (([] : List (List Int)) : List (List Int))).bind fun y137 => (if 0 ≤ x10 then (if x10 ≤ (x5.length : Int) then ((some (x5.take (x10 : Int).toNat : List (List Int))).bind fun y140 => (if y137.length + y140.length < 5864062014805 then ((some (y137 ++ y140 : List (List Int))).bind fun y145 => (if y145.length < 5864062014805 then ((some (y145 ++ [x8] : List (List Int))).bind fun y148 => ((some (x5.drop (x10 : Int).toNat : List (List Int))).bind fun y151 => (if y148.length + y151.length < 5864062014805 then (Zam.l0 k x1 (y148 ++ y151) x13 x14 (wrap64 (x15 + 1)) X020 X021 X022) else (none)))) else (none))) else (none))) else (none)) else (none)))
end
def Zam.f (k : Nat) (a0_0 : Int) (a0_1 : Int) (l0_2 : List Int) (a1 : Int) : Option ((List (List Int))) := Zam.l0 k a1 ([] : List (List Int)) l0_2 (l0_2.length : Int) 0 a0_0 a0_1 l0_2
set_option maxHeartbeats 8000000 in
set_option maxRecDepth 100000 in
theorem Zam.calls (k : Nat) (a0_0 : Int) (a0_1 : Int) (A0_2 : Option Addr) (c0_2 : Nat) (l0_2 : List Int) (a1 : Int) (r : List (List Int)) (w : World) (hr0_2 : Kd.C (Kd.int .u8) w A0_2 l0_2.length l0_2) (hc0_2 : l0_2.length ≤ c0_2) (h : Zam.f k a0_0 a0_1 l0_2 a1 = some r) :
  Calls Tryz.prog 103 #[.agg #[.int .i64 a0_0, .int .i64 a0_1, .slice A0_2 l0_2.length c0_2], .int .i64 a1] w fun e w' => ∃ v0_ : Value, e = .returned (v0_) ∧ Kd.N (Kd.slice 3 (Kd.int .i64)) 31 w' w.heap.size (fun k_ => (w.heap.size ≤ k_)) v0_ r ∧ Below w.heap.size w w' := by
 have hu52 := Tryz.underlying52
 have HR0_2 := Zad.mk hr0_2
 have HC0_2 := Zad.mk hc0_2
 clear hr0_2 hc0_2
 have HB := Zad.mk (Below.refl w.heap.size w)
 have H : (Zam.l0 k a1 ([] : List (List Int)) l0_2 (l0_2.length : Int) 0 a0_0 a0_1 l0_2) = some r := h
 clear h
 have H' := Zad.mk H
 clear H
 go_enter Tryz.func103, Tryz.ntmps103
 go_wp2_with (first | ((with_reducible refine Zay (N := 2) rfl ?_); refine Zaz ?hg (N := 2) ?hd (cs := #[.int .i64 a0_0, .int .i64 a0_1, .slice A0_2 l0_2.length c0_2]) (t := 52) ?hr ?_; (case hd => rfl); (case hg => rfl); (case hr => first | (go_simp; done) | (go_simp; rfl)); intro g01 hg w3 hbox hb; have n0_ := Zad.mk (Zal (by with_reducible repeat first | exact HB.out | apply Zac | apply Zaa | apply Zab) hb); have n1_ := Zad.mk (hbox); have n2_ := Zad.mk ((by rw [hg]; exact (Zak (by with_reducible repeat first | exact HB.out | apply Zac | apply Zaa | apply Zab)) : w.heap.size ≤ g01)); have n3_ := n2_; clear HB; have HB := n0_; have K01 := n1_; have W01 := n2_; have E01 := n3_; clear hb hbox hg; have hcz4_0 : w3.cell? ⟨g01, 0, none⟩ = some (.int .i64 a0_0) := (Zai K01.out 0).trans rfl; have hcz4_1 : w3.cell? ⟨g01, 1, none⟩ = some (.int .i64 a0_1) := (Zai K01.out 1).trans rfl; have hcz4_2 : w3.cell? ⟨g01, 2, none⟩ = some (.slice A0_2 l0_2.length c0_2) := (Zai K01.out 2).trans rfl; have hfz4_0 := Zae K01.out 0; have hfz4_1 := Zae K01.out 1; have hfz4_2 := Zae K01.out 2))
 go_loopg [5, 15] k (fun kq v5 v15 w' => ∃ (x5_1 : List (List Int)) (x15_1 : Int), v15 = .int .i64 x15_1 ∧ Zad (Zam.l0 kq a1 x5_1 l0_2 (l0_2.length : Int) x15_1 a0_0 a0_1 l0_2 = some r) ∧ Zad (kq ≤ k) ∧ Zad (Kd.N (Kd.slice 3 (Kd.int .i64)) 31 w' w.heap.size (fun k_ => (w.heap.size ≤ k_) ∧ k_ ≠ g01) v5 x5_1) ∧ Zad (w'.heap[g01]? = some (.cells #[.int .i64 a0_0, .int .i64 a0_1, (.slice A0_2 l0_2.length c0_2)] 52 (0, 0))) ∧ Zad (Below w.heap.size w w'))
 case atStart => exact ⟨(([] : List (List Int))), (0), (by first | rfl | (simp; done) | (simp [*]; done)), H', ⟨Nat.le_refl _⟩, ⟨by first | exact Kd.S_nil _ _ _ _ _ | exact Kd.N_nil _ _ _ _ _ | exact Kd.V_nil _ _ _ _ _ | exact Kd.Q_nil _ _ _ _ _ | exact Kd.R_nil _ _ _ _ _⟩, ⟨by (with_reducible repeat (first | refine Zag ?_ _ | refine Zaj ?_ | refine Zaf ?_ _)); exact K01.out⟩, ⟨by with_reducible repeat first | exact HB.out | apply Zac | apply Zaa | apply Zab | refine Zah ?_ E01.out⟩⟩
 case round =>
  clear H'
  obtain ⟨x5_1, x15_1, rfl, HA, HK1, HO_5, K01, HB⟩ := hrel
  cases gk with
  | zero => exact absurd HA.out (by simp [Zam.l0])
  | succ k1 =>
   have H := HA.out
   clear HA
   simp only [Zam.l0] at H
   by_cases c5 : x15_1 < (l0_2.length : Int)
   ·rw [if_pos c5] at H
    have c5b0 : decide (x15_1 < (l0_2.length : Int)) = true := decide_eq_true c5
    clear c5
    by_cases c6 : 0 ≤ x15_1
    ·rw [if_pos c6] at H
     have c6b0 : decide (0 ≤ x15_1) = true := decide_eq_true c6
     clear c6
     by_cases c7 : x15_1 < (l0_2.length : Int)
     ·rw [if_pos c7] at H
      have c7b0 : decide (x15_1 < (l0_2.length : Int)) = true := decide_eq_true c7
      clear c7
      have HC8 := Zad.mk H
      clear H
      have p102 : 0 ≤ (x15_1 : Int) := of_decide_eq_true (by first | (with_reducible assumption) | assumption)
      have q102 : x15_1 < (l0_2.length : Int) := of_decide_eq_true (by first | (with_reducible assumption) | assumption)
      obtain ⟨ad102, e102, hx102_0⟩ := Kd.at_int HR0_2.out x15_1 p102 q102
      cases e102
      (first | (replace hx102_0 := (HB.out.cell (World.block_lt_of_cell? w _ hx102_0)).trans hx102_0) | skip)
      replace p102 := eq_true p102
      replace q102 := eq_true q102
      go_upto_region 5 with (fail)
      go_cut [28] (fun v28 wc => ∃ (kq : Nat) (x28_7 : Bool), v28 = .bool x28_7 ∧ Zad (Zam.j1 kq a1 x5_1 x15_1 l0_2 (l0_2.length : Int) x15_1 x28_7 a0_0 a0_1 l0_2 = some r) ∧ Zad (kq ≤ k1) ∧ Zad (Kd.N (Kd.slice 3 (Kd.int .i64)) 31 wc w.heap.size (fun k_ => (w.heap.size ≤ k_) ∧ k_ ≠ g01) u5 x5_1) ∧ Zad (wc.heap[g01]? = some (.cells #[.int .i64 a0_0, .int .i64 a0_1, (.slice (some ad102) l0_2.length c0_2)] 52 (0, 0))) ∧ Zad (Below w.heap.size w wc))
      case first =>
       have H := HC8.out
       clear HC8
       by_cases c9 : (rd l0_2 x15_1) = 35
       ·rw [if_pos c9] at H
        have c9b0 : ((rd l0_2 x15_1) == 35) = true := beq_iff_eq.mpr c9
        have c9b1 : ((rd l0_2 x15_1) != 35) = false := bne_eq_false_iff_eq.mpr c9
        clear c9
        (first | rw [c9b0] | (simp only [i64_w, i32_w]; rw [c9b0]) | skip)
        have H' := Zad.mk H
        clear H
        go_wp2
        go_meet
        case rel => exact ⟨_, (true), (by first | rfl | (simp; done) | (simp [*]; done)), H', ⟨by have := HK1.out; first | omega | exact Nat.le_refl _⟩, ⟨by (with_reducible repeat (first | apply Kd.N_alloc | apply Kd.N_drewN | apply Kd.N_drew)); exact HO_5.out⟩, ⟨by (with_reducible repeat (first | refine Zag ?_ _ | refine Zaj ?_ | refine Zaf ?_ _)); exact K01.out⟩, ⟨by with_reducible repeat first | exact HB.out | apply Zac | apply Zaa | apply Zab | refine Zah ?_ E01.out⟩⟩
       ·rw [if_neg c9] at H
        have c9b0 : ((rd l0_2 x15_1) == 35) = false := beq_eq_false_iff_ne.mpr c9
        have c9b1 : ((rd l0_2 x15_1) != 35) = true := bne_iff_ne.mpr c9
        (first | rw [c9b0] | (simp only [i64_w, i32_w]; rw [c9b0]) | skip)
        replace H := Option.bind_eq_some_iff.mp H
        obtain ⟨t103, A100, H⟩ := H
        replace H : (Zam.j1 k1 a1 x5_1 x15_1 l0_2 (l0_2.length : Int) x15_1 (decide (t103 ≥ 0)) a0_0 a0_1 l0_2) = some r := H
        have A10 := Zad.mk A100
        clear A100
        have H' := Zad.mk H
        clear H
        have hcz11_0 : wr.cell? ⟨g01, 0, none⟩ = some (.int .i64 a0_0) := (Zai K01.out 0).trans rfl
        have hcz11_1 : wr.cell? ⟨g01, 1, none⟩ = some (.int .i64 a0_1) := (Zai K01.out 1).trans rfl
        have hcz11_2 : wr.cell? ⟨g01, 2, none⟩ = some (.slice (some ad102) l0_2.length c0_2) := (Zai K01.out 2).trans rfl
        have hfz11_0 := Zae K01.out 0
        have hfz11_1 := Zae K01.out 1
        have hfz11_2 := Zae K01.out 2
        go_wp2_with (first | (go_at_call 154; (with_reducible refine (Zck.calls a0_0 a0_1 _ _ l0_2 x15_1 a1 t103 _ ?side1 ?side2 A10.out).mono ?_); (case side1 => repeat (first | exact (Kd.C_below HR0_2.out HB.out) | (with_reducible refine Kd.C_alloc ?_ _) | (with_reducible refine Kd.C_drewN ?_ _) | (with_reducible refine Kd.C_drew ?_))); (case side2 => exact HC0_2.out); rintro e w12 ⟨rfl, hb⟩; have n0_ := Zad.mk (Kd.N_below (by (with_reducible repeat (first | apply Kd.N_alloc | apply Kd.N_drewN | apply Kd.N_drew)); exact HO_5.out) hb); have n1_ := Zad.mk (Zav (g := g01) (o := .cells #[.int .i64 a0_0, .int .i64 a0_1, .slice (some ad102) l0_2.length c0_2] 52 (0, 0)) (by (with_reducible repeat (first | refine Zag ?_ _ | refine Zaj ?_ | refine Zaf ?_ _)); exact K01.out) hb); have n2_ := Zad.mk (Zal (by with_reducible repeat first | exact HB.out | apply Zac | apply Zaa | apply Zab | refine Zah ?_ E01.out) hb); clear HO_5; clear K01; clear HB; have HO_5 := n0_; have K01 := n1_; have HB := n2_))
        go_meet
        case rel => exact ⟨_, (decide (t103 ≥ 0)), (by first | rfl | (simp; done) | (simp [*]; done)), H', ⟨by have := HK1.out; first | omega | exact Nat.le_refl _⟩, ⟨by (with_reducible repeat (first | apply Kd.N_alloc | apply Kd.N_drewN | apply Kd.N_drew)); exact HO_5.out⟩, ⟨by (with_reducible repeat (first | refine Zag ?_ _ | refine Zaj ?_ | refine Zaf ?_ _)); exact K01.out⟩, ⟨by with_reducible repeat first | exact HB.out | apply Zac | apply Zaa | apply Zab | refine Zah ?_ E01.out⟩⟩
      case rest =>
       clear HC8
       obtain ⟨kq, x28_7, rfl, HA, HJ7, HO_5, K01, HB⟩ := hcut
       cases kq with
       | zero => exact absurd HA.out (by simp [Zam.j1])
       | succ kj7 =>
        have H := HA.out
        clear HA
        simp only [Zam.j1] at H
        by_cases c13 : x28_7 = true
        ·subst c13
         have H1 : (Zam.l0 kj7 a1 x5_1 l0_2 (l0_2.length : Int) (wrap64 (x15_1 + 1)) a0_0 a0_1 l0_2) = some r := by rw [if_pos rfl] at H; exact H
         clear H
         have H := H1
         clear H1
         have H' := Zad.mk H
         clear H
         go_wp2
         go_roundg kj7
         case measure => have := HK1.out; have := HJ7.out; omega
         case rel => exact ⟨(x5_1), (wrap64 (x15_1 + 1)), (by first | rfl | (simp; done) | (simp [*]; done)), H', ⟨by have := HK1.out; have := HJ7.out; omega⟩, ⟨by (with_reducible repeat (first | apply Kd.N_alloc | apply Kd.N_drewN | apply Kd.N_drew)); exact HO_5.out⟩, ⟨by (with_reducible repeat (first | refine Zag ?_ _ | refine Zaj ?_ | refine Zaf ?_ _)); exact K01.out⟩, ⟨by with_reducible repeat first | exact HB.out | apply Zac | apply Zaa | apply Zab | refine Zah ?_ E01.out⟩⟩
        ·replace c13 := Bool.eq_false_iff.mpr c13
         subst c13
         have H1 : ((Zck.f a0_0 a0_1 l0_2 x15_1 (Int.tmod (wrap64 (a1 + 2)) 4)).bind fun t107 => (Zam.l1 kj7 a1 x5_1 (([x15_1] : List Int)) t107 l0_2 (l0_2.length : Int) x15_1 a0_0 a0_1 l0_2)) = some r := by rw [if_neg (show ¬ (false = true) by decide)] at H; exact H
         clear H
         have H := H1
         clear H1
         obtain ⟨y104, hy104⟩ : ∃ y_ : List Int, y_ = (([x15_1] : List Int)) := ⟨_, rfl⟩
         replace H : ((Zck.f a0_0 a0_1 l0_2 x15_1 (Int.tmod (wrap64 (a1 + 2)) 4)).bind fun t107 => (Zam.l1 kj7 a1 x5_1 y104 t107 l0_2 (l0_2.length : Int) x15_1 a0_0 a0_1 l0_2)) = some r := by first | (rw [hy104]; with_reducible exact H) | (have H2_ := (Option.bind_some _ _).symm.trans H; rw [hy104]; with_reducible exact H2_) | (have H2_ := (Option.bind_some _ _).symm.trans H; with_reducible exact H2_) | with_reducible exact H | (rw [hy104]; exact H) | exact H
         have Ny104 := Zad.mk hy104
         clear hy104
         replace H := Option.bind_eq_some_iff.mp H
         obtain ⟨t107, A140, H⟩ := H
         replace H : (Zam.l1 kj7 a1 x5_1 y104 t107 l0_2 (l0_2.length : Int) x15_1 a0_0 a0_1 l0_2) = some r := H
         have A14 := Zad.mk A140
         clear A140
         have H' := Zad.mk H
         clear H
         go_wp2_with (first | ((with_reducible refine Zay (N := 30) rfl ?_); refine Kd.R_lit (Kd.int .i64) _ 3 ?hg (N := 30) ?hd (xs := ([x15_1] : List Int)) (inner := [.int .i64 x15_1]) (ok := fun _ => True) (okp := fun _ => True) ?hr ?hp (fun _ hk => hk) trivial (Below.refl _ _) (Nat.le_refl _) (by simp) ?_; (case hd => rfl); (case hg => rfl); (case hr => first | (go_simp; done) | (go_simp; rfl)); (case hp => exact (Reps.one (show Kd.M (Kd.int .i64) _ _ _ x15_1 [.int .i64 x15_1] from rfl) (Reps.none _ _))); intro v105 w15 ho16 hb hg_ hnew_; clear hg_ hnew_; (first | rw [← Ny104.out] at ho16 | (simp only [Int.reduceToNat] at ho16; rw [← Ny104.out] at ho16)); have n0_ := Zad.mk (Kd.N_elder' (by (with_reducible repeat (first | apply Kd.N_alloc | apply Kd.N_drewN | apply Kd.N_drew)); exact HO_5.out) (Kd.R_base ho16) hb); have n1_ := Zad.mk (Kd.R_lower (Kd.R_newM (M := fun k_ => (w.heap.size ≤ k_)) ho16 (Zak (by with_reducible repeat first | exact HB.out | apply Zac | apply Zaa | apply Zab | refine Zah ?_ E01.out)) (fun k_ h_ => h_)) (Zak (by with_reducible repeat first | exact HB.out | apply Zac | apply Zaa | apply Zab | refine Zah ?_ E01.out))); have n2_ := Zad.mk (Zav (g := g01) (o := .cells #[.int .i64 a0_0, .int .i64 a0_1, .slice (some ad102) l0_2.length c0_2] 52 (0, 0)) (by (with_reducible repeat (first | refine Zag ?_ _ | refine Zaj ?_ | refine Zaf ?_ _)); exact K01.out) hb); have n3_ := Zad.mk (Zal (by with_reducible repeat first | exact HB.out | apply Zac | apply Zaa | apply Zab | refine Zah ?_ E01.out) hb); clear HO_5; clear K01; clear HB; have HO_5 := n0_; have HO106 := n1_; have K01 := n2_; have HB := n3_; clear hb ho16; have hcz17_0 : w15.cell? ⟨g01, 0, none⟩ = some (.int .i64 a0_0) := (Zai K01.out 0).trans rfl; have hcz17_1 : w15.cell? ⟨g01, 1, none⟩ = some (.int .i64 a0_1) := (Zai K01.out 1).trans rfl; have hcz17_2 : w15.cell? ⟨g01, 2, none⟩ = some (.slice (some ad102) l0_2.length c0_2) := (Zai K01.out 2).trans rfl; have hfz17_0 := Zae K01.out 0; have hfz17_1 := Zae K01.out 1; have hfz17_2 := Zae K01.out 2) | ((with_reducible refine Zau (f := 154) rfl ?_); refine Zbr (some 36) rfl rfl Tryz.func154 (by kernel_rfl) rfl #[.agg #[.int .i64 a0_0, .int .i64 a0_1, .slice (some ad102) l0_2.length c0_2], .int .i64 x15_1, .int .i64 (Int.tmod (wrap64 (a1 + 2)) 4)] rfl (by (try simp only [List.map_toArray, List.map_cons, List.map_nil]); first | done | rfl | (simp only [List.length_drop, List.length_take]; rfl)) ?_; (with_reducible refine (Zck.calls a0_0 a0_1 _ _ l0_2 x15_1 (Int.tmod (wrap64 (a1 + 2)) 4) t107 _ ?side1 ?side2 A14.out).mono ?_); (case side1 => repeat (first | exact (Kd.C_below HR0_2.out HB.out) | (with_reducible refine Kd.C_alloc ?_ _) | (with_reducible refine Kd.C_drewN ?_ _) | (with_reducible refine Kd.C_drew ?_))); (case side2 => exact HC0_2.out); rintro e w18 ⟨rfl, hb⟩; refine ⟨_, rfl, ?_⟩; have n0_ := Zad.mk (Kd.N_below (by (with_reducible repeat (first | apply Kd.N_alloc | apply Kd.N_drewN | apply Kd.N_drew)); exact HO_5.out) hb); have n1_ := Zad.mk (Kd.R_below (by (with_reducible repeat (first | apply Kd.R_alloc | apply Kd.R_drewN | apply Kd.R_drew)); exact HO106.out) hb); have n2_ := Zad.mk (Zav (g := g01) (o := .cells #[.int .i64 a0_0, .int .i64 a0_1, .slice (some ad102) l0_2.length c0_2] 52 (0, 0)) (by (with_reducible repeat (first | refine Zag ?_ _ | refine Zaj ?_ | refine Zaf ?_ _)); exact K01.out) hb); have n3_ := Zad.mk (Zal (by with_reducible repeat first | exact HB.out | apply Zac | apply Zaa | apply Zab | refine Zah ?_ E01.out) hb); clear HO_5; clear HO106; clear K01; clear HB; have HO_5 := n0_; have HO106 := n1_; have K01 := n2_; have HB := n3_))
         go_loopg [8, 9] kj7 (fun kq v8 v9 w' => ∃ (x8_3 : List Int) (x9_3 : Int), v9 = .int .i64 x9_3 ∧ Zad (Zam.l1 kq a1 x5_1 x8_3 x9_3 l0_2 (l0_2.length : Int) x15_1 a0_0 a0_1 l0_2 = some r) ∧ Zad (kq ≤ kj7) ∧ Zad (Kd.N (Kd.slice 3 (Kd.int .i64)) 31 w' w.heap.size (fun k_ => (w.heap.size ≤ k_) ∧ some k_ ≠ (v8 : Value).ownBlock ∧ k_ ≠ g01) u5 x5_1) ∧ Zad (Kd.R (Kd.int .i64) 3 w' w.heap.size (fun k_ => (w.heap.size ≤ k_)) v8 x8_3) ∧ Zad (w'.heap[g01]? = some (.cells #[.int .i64 a0_0, .int .i64 a0_1, (.slice (some ad102) l0_2.length c0_2)] 52 (0, 0))) ∧ Zad (Below w.heap.size w w'))
         case atStart => exact ⟨(y104), (t107), (by first | rfl | (simp; done) | (simp [*]; done)), H', ⟨Nat.le_refl _⟩, ⟨by (with_reducible repeat (first | apply Kd.N_alloc | apply Kd.N_drewN | apply Kd.N_drew)); exact Kd.N_mono HO_5.out (fun _ hk => ⟨hk.1.1, ⟨hk.2, hk.1.2⟩⟩)⟩, ⟨by (with_reducible repeat (first | apply Kd.R_alloc | apply Kd.R_drewN | apply Kd.R_drew)); exact Kd.R_mono HO106.out (fun _ hk => hk.1)⟩, ⟨by (with_reducible repeat (first | refine Zag ?_ _ | refine Zaj ?_ | refine Zaf ?_ _)); exact K01.out⟩, ⟨by with_reducible repeat first | exact HB.out | apply Zac | apply Zaa | apply Zab | refine Zah ?_ E01.out⟩⟩
         case round =>
          clear H'
          obtain ⟨x8_3, x9_3, rfl, HA, HK3, HO_5, HO_8, K01, HB⟩ := hrel
          cases gk with
          | zero => exact absurd HA.out (by simp [Zam.l1])
          | succ k3 =>
           have H := HA.out
           clear HA
           simp only [Zam.l1] at H
           by_cases c19 : x9_3 ≥ 0
           ·rw [if_pos c19] at H
            have c19b0 : decide (0 ≤ x9_3) = true := decide_eq_true c19
            clear c19
            by_cases c20 : x8_3.length < 17592186044416
            ·rw [if_pos c20] at H
             have LMc20 := Zad.mk c20
             clear c20
             obtain ⟨y108, hy108⟩ : ∃ y_ : List Int, y_ = (x8_3 ++ [x9_3]) := ⟨_, rfl⟩
             replace H : ((Zck.f a0_0 a0_1 l0_2 x9_3 (Int.tmod (wrap64 (a1 + 2)) 4)).bind fun t111 => (Zam.l1 k3 a1 x5_1 y108 t111 l0_2 (l0_2.length : Int) x15_1 a0_0 a0_1 l0_2)) = some r := by first | (rw [hy108]; with_reducible exact H) | (have H2_ := (Option.bind_some _ _).symm.trans H; rw [hy108]; with_reducible exact H2_) | (have H2_ := (Option.bind_some _ _).symm.trans H; with_reducible exact H2_) | with_reducible exact H | (rw [hy108]; exact H) | exact H
             have Ny108 := Zad.mk hy108
             clear hy108
             replace H := Option.bind_eq_some_iff.mp H
             obtain ⟨t111, A210, H⟩ := H
             replace H : (Zam.l1 k3 a1 x5_1 y108 t111 l0_2 (l0_2.length : Int) x15_1 a0_0 a0_1 l0_2) = some r := H
             have A21 := Zad.mk A210
             clear A210
             have H' := Zad.mk H
             clear H
             go_wp2_with (first | ((with_reducible refine Za9 (b := .append) (xs := #[.tmp 45, .tmp 47]) rfl ?_); at_builtin; refine Kd.R_append (Kd.int .i64) (w0 := w) w.heap.size rfl (.tmp 45) (.tmp 47) 31 3 (.int .i64 0) 8 rfl Tryz.underlying31 info3 rfl (by decide) (by omega) u8 x8_3 x9_3 [.int .i64 x9_3] (fun k_ => (w.heap.size ≤ k_)) (fun _ => False) rfl rfl ?aP (fun _ hk => hk.elim) ?aF ?aO ?aB ?aS ?aL ?_; (case aP => exact rfl); (case aB => exact (by with_reducible repeat first | exact HB.out | apply Zac | apply Zaa | apply Zab | refine Zah ?_ E01.out)); (case aF => exact (fun k_ hk => (Nat.le_trans (Zak (by with_reducible repeat first | exact HB.out | apply Zac | apply Zaa | apply Zab | refine Zah ?_ E01.out)) hk))); (case aO => exact (by (with_reducible repeat (first | apply Kd.R_alloc | apply Kd.R_drewN | apply Kd.R_drew)); exact HO_8.out)); (case aS => exact (Zak (by with_reducible repeat first | exact HB.out | apply Zac | apply Zaa | apply Zab | refine Zah ?_ E01.out))); (case aL => have := LMc20.out; omega); intro v109 w22 ho hb hg hat; rw [← Ny108.out] at ho; have n0_ := Zad.mk (Kd.N_afterv (ok := (fun k_ => (w.heap.size ≤ k_) ∧ k_ ≠ g01)) (by (with_reducible repeat (first | apply Kd.N_alloc | apply Kd.N_drewN | apply Kd.N_drew)); exact Kd.N_mono HO_5.out (fun _ hk => ⟨⟨hk.1, hk.2.2⟩, hk.2.1⟩)) hg hat); have n1_ := Zad.mk (Zbf (g := g01) (o := .cells #[.int .i64 a0_0, .int .i64 a0_1, .slice (some ad102) l0_2.length c0_2] 52 (0, 0)) (by (with_reducible repeat (first | refine Zag ?_ _ | refine Zaj ?_ | refine Zaf ?_ _)); exact K01.out) hg (Kd.R_ne HO_8.out K01.out (by decide))); have n2_ := Zad.mk (hb); have n3_ := Zad.mk (ho); clear HO_5; clear K01; clear HB; clear HO_8; have HO_5 := n0_; have K01 := n1_; have HB := n2_; have HO110 := n3_; clear ho hb hg hat; have hcz23_0 : w22.cell? ⟨g01, 0, none⟩ = some (.int .i64 a0_0) := (Zai K01.out 0).trans rfl; have hcz23_1 : w22.cell? ⟨g01, 1, none⟩ = some (.int .i64 a0_1) := (Zai K01.out 1).trans rfl; have hcz23_2 : w22.cell? ⟨g01, 2, none⟩ = some (.slice (some ad102) l0_2.length c0_2) := (Zai K01.out 2).trans rfl; have hfz23_0 := Zae K01.out 0; have hfz23_1 := Zae K01.out 1; have hfz23_2 := Zae K01.out 2) | ((with_reducible refine Zau (f := 154) rfl ?_); refine Zbr (some 44) rfl rfl Tryz.func154 (by kernel_rfl) rfl #[.agg #[.int .i64 a0_0, .int .i64 a0_1, .slice (some ad102) l0_2.length c0_2], .int .i64 x9_3, .int .i64 (Int.tmod (wrap64 (a1 + 2)) 4)] rfl (by (try simp only [List.map_toArray, List.map_cons, List.map_nil]); first | done | rfl | (simp only [List.length_drop, List.length_take]; rfl)) ?_; (with_reducible refine (Zck.calls a0_0 a0_1 _ _ l0_2 x9_3 (Int.tmod (wrap64 (a1 + 2)) 4) t111 _ ?side1 ?side2 A21.out).mono ?_); (case side1 => repeat (first | exact (Kd.C_below HR0_2.out HB.out) | (with_reducible refine Kd.C_alloc ?_ _) | (with_reducible refine Kd.C_drewN ?_ _) | (with_reducible refine Kd.C_drew ?_))); (case side2 => exact HC0_2.out); rintro e w24 ⟨rfl, hb⟩; refine ⟨_, rfl, ?_⟩; have n0_ := Zad.mk (Kd.N_below (by (with_reducible repeat (first | apply Kd.N_alloc | apply Kd.N_drewN | apply Kd.N_drew)); exact HO_5.out) hb); have n1_ := Zad.mk (Kd.R_below (by (with_reducible repeat (first | apply Kd.R_alloc | apply Kd.R_drewN | apply Kd.R_drew)); exact HO110.out) hb); have n2_ := Zad.mk (Zav (g := g01) (o := .cells #[.int .i64 a0_0, .int .i64 a0_1, .slice (some ad102) l0_2.length c0_2] 52 (0, 0)) (by (with_reducible repeat (first | refine Zag ?_ _ | refine Zaj ?_ | refine Zaf ?_ _)); exact K01.out) hb); have n3_ := Zad.mk (Zal (by with_reducible repeat first | exact HB.out | apply Zac | apply Zaa | apply Zab | refine Zah ?_ E01.out) hb); clear HO_5; clear HO110; clear K01; clear HB; have HO_5 := n0_; have HO110 := n1_; have K01 := n2_; have HB := n3_))
             go_roundg k3
             case measure => have := HK1.out; have := HJ7.out; have := HK3.out; omega
             case rel => exact ⟨(y108), (t111), (by first | rfl | (simp; done) | (simp [*]; done)), H', ⟨by have := HK1.out; have := HJ7.out; have := HK3.out; omega⟩, ⟨by (with_reducible repeat (first | apply Kd.N_alloc | apply Kd.N_drewN | apply Kd.N_drew)); exact Kd.N_mono HO_5.out (fun _ hk => ⟨hk.1.1, ⟨hk.2, hk.1.2⟩⟩)⟩, ⟨by (with_reducible repeat (first | apply Kd.R_alloc | apply Kd.R_drewN | apply Kd.R_drew)); exact HO110.out⟩, ⟨by (with_reducible repeat (first | refine Zag ?_ _ | refine Zaj ?_ | refine Zaf ?_ _)); exact K01.out⟩, ⟨by with_reducible repeat first | exact HB.out | apply Zac | apply Zaa | apply Zab | refine Zah ?_ E01.out⟩⟩
            ·rw [if_neg c20] at H
             exact absurd H (by simp)
           ·rw [if_neg c19] at H
            have c19b0 : decide (0 ≤ x9_3) = false := decide_eq_false c19
            clear c19
            have H' := Zad.mk H
            clear H
            go_wp2
            go_loopg [10] k3 (fun kq v10 w' => ∃ (x10_4 : Int), v10 = .int .i64 x10_4 ∧ Zad (Zam.l2 kq a1 x5_1 x8_3 x10_4 l0_2 (l0_2.length : Int) x15_1 a0_0 a0_1 l0_2 = some r) ∧ Zad (kq ≤ k3) ∧ Zad (Kd.N (Kd.slice 3 (Kd.int .i64)) 31 w' w.heap.size (fun k_ => (w.heap.size ≤ k_) ∧ some k_ ≠ (u8 : Value).ownBlock ∧ k_ ≠ g01) u5 x5_1) ∧ Zad (Kd.R (Kd.int .i64) 3 w' w.heap.size (fun k_ => (w.heap.size ≤ k_)) u8 x8_3) ∧ Zad (w'.heap[g01]? = some (.cells #[.int .i64 a0_0, .int .i64 a0_1, (.slice (some ad102) l0_2.length c0_2)] 52 (0, 0))) ∧ Zad (Below w.heap.size w w'))
            case atStart => exact ⟨(0), (by first | rfl | (simp; done) | (simp [*]; done)), H', ⟨Nat.le_refl _⟩, ⟨by (with_reducible repeat (first | apply Kd.N_alloc | apply Kd.N_drewN | apply Kd.N_drew)); exact HO_5.out⟩, ⟨by (with_reducible repeat (first | apply Kd.R_alloc | apply Kd.R_drewN | apply Kd.R_drew)); exact HO_8.out⟩, ⟨by (with_reducible repeat (first | refine Zag ?_ _ | refine Zaj ?_ | refine Zaf ?_ _)); exact K01.out⟩, ⟨by with_reducible repeat first | exact HB.out | apply Zac | apply Zaa | apply Zab | refine Zah ?_ E01.out⟩⟩
            case round =>
             clear H'
             obtain ⟨x10_4, rfl, HA, HK4, HO_5, HO_8, K01, HB⟩ := hrel
             cases gk with
             | zero => exact absurd HA.out (by simp [Zam.l2])
             | succ k4 =>
              have H := HA.out
              clear HA
              simp only [Zam.l2] at H
              by_cases c25 : x10_4 < (x5_1.length : Int)
              ·rw [if_pos c25] at H
               have c25b0 : decide (x10_4 < (x5_1.length : Int)) = true := decide_eq_true c25
               clear c25
               by_cases c26 : 0 ≤ x10_4
               ·rw [if_pos c26] at H
                have c26b0 : decide (0 ≤ x10_4) = true := decide_eq_true c26
                clear c26
                replace H := Option.bind_eq_some_iff.mp H
                obtain ⟨t113, A270, H⟩ := H
                replace H : ((Zbp.f k4 x8_3).bind fun t114 => (if t113 < t114 then (Zam.l2 k4 a1 x5_1 x8_3 (wrap64 (x10_4 + 1)) l0_2 (l0_2.length : Int) x15_1 a0_0 a0_1 l0_2) else ((some (([] : List (List Int)) : List (List Int))).bind fun y115 => (if x10_4 ≤ (x5_1.length : Int) then ((some (x5_1.take (x10_4 : Int).toNat : List (List Int))).bind fun y118 => (if y115.length + y118.length < 5864062014805 then ((some (y115 ++ y118 : List (List Int))).bind fun y123 => (if y123.length < 5864062014805 then ((some (y123 ++ [x8_3] : List (List Int))).bind fun y126 => ((some (x5_1.drop (x10_4 : Int).toNat : List (List Int))).bind fun y129 => (if y126.length + y129.length < 5864062014805 then (Zam.l0 k4 a1 (y126 ++ y129) l0_2 (l0_2.length : Int) (wrap64 (x15_1 + 1)) a0_0 a0_1 l0_2) else (none)))) else (none))) else (none))) else (none))))) = some r := H
                have A27 := Zad.mk A270
                clear A270
                replace H := Option.bind_eq_some_iff.mp H
                obtain ⟨t114, A280, H⟩ := H
                replace H : (if t113 < t114 then (Zam.l2 k4 a1 x5_1 x8_3 (wrap64 (x10_4 + 1)) l0_2 (l0_2.length : Int) x15_1 a0_0 a0_1 l0_2) else ((some (([] : List (List Int)) : List (List Int))).bind fun y115 => (if x10_4 ≤ (x5_1.length : Int) then ((some (x5_1.take (x10_4 : Int).toNat : List (List Int))).bind fun y118 => (if y115.length + y118.length < 5864062014805 then ((some (y115 ++ y118 : List (List Int))).bind fun y123 => (if y123.length < 5864062014805 then ((some (y123 ++ [x8_3] : List (List Int))).bind fun y126 => ((some (x5_1.drop (x10_4 : Int).toNat : List (List Int))).bind fun y129 => (if y126.length + y129.length < 5864062014805 then (Zam.l0 k4 a1 (y126 ++ y129) l0_2 (l0_2.length : Int) (wrap64 (x15_1 + 1)) a0_0 a0_1 l0_2) else (none)))) else (none))) else (none))) else (none)))) = some r := H
                have A28 := Zad.mk A280
                clear A280
                by_cases c29 : t113 < t114
                ·rw [if_pos c29] at H
                 have c29b0 : decide (t113 < t114) = true := decide_eq_true c29
                 clear c29
                 have H' := Zad.mk H
                 clear H
                 obtain ⟨Ao30, co30, eo30⟩ := Kd.N_slice HO_5.out
                 subst eo30
                 have p112 : 0 ≤ (x10_4 : Int) := of_decide_eq_true (by first | (with_reducible assumption) | assumption)
                 have q112 : x10_4 < (x5_1.length : Int) := of_decide_eq_true (by first | (with_reducible assumption) | assumption)
                 obtain ⟨ad112, A112_0, c112_0, e112, hx112_0, hl112_0, hi112_0⟩ := at_L3 (Kd.N_reads' HO_5.out).2.2 x10_4 p112 q112
                 cases e112
                 obtain ⟨ce112, hce112, hMe112, hcc112⟩ := Kd.N_get HO_5.out [] x10_4 p112 (by first | exact q112 | exact of_decide_eq_true (by first | (with_reducible assumption) | assumption) | (have e_ := (Kd.N_reads' HO_5.out).1; omega))
                 obtain ⟨ua112_0, uc112_0, rfl, ul112_0, ge112_0⟩ := Kd.FK_slice_open hMe112
                 have hv112_0 := hcc112 0 _ rfl
                 rw [Nat.add_zero, show ((Kd.slice 3 (Kd.int .i64))).sz = 1 from rfl, Nat.mul_one] at hv112_0
                 replace hv112_0 := Option.some.inj (hv112_0.symm.trans hx112_0)
                 injection hv112_0 with hva_ hvn_ hvc_
                 rw [hva_] at ge112_0
                 rw [hvc_] at ul112_0
                 have HL112_0 := Zad.mk (show Kd.V (Kd.int .i64) 3 _ w.heap.size _ _ (rd_L3 x5_1 x10_4) from Kd.V_mk ul112_0 ge112_0)
                 clear hva_ hvn_ hvc_ ge112_0 ul112_0
                 clear hcc112 hce112
                 have HR112_0 := Zad.mk hi112_0
                 have HC112_0 := Zad.mk hl112_0
                 clear hi112_0 hl112_0
                 replace p112 := eq_true p112
                 replace q112 := eq_true q112
                 go_wp2_with (first | (go_at_call 155; (with_reducible refine (Zbp.calls k4 _ _ (rd_L3 x5_1 x10_4) t113 _ ?side1 ?side2 A27.out).mono ?_); (case side1 => repeat (first | exact (by repeat (first | (with_reducible exact HR112_0.out) | (with_reducible refine Kd.C_alloc ?_ _) | (with_reducible refine Kd.C_drewN ?_ _) | (with_reducible refine Kd.C_drew ?_) | exact HR112_0.out)) | (with_reducible refine Kd.C_alloc ?_ _) | (with_reducible refine Kd.C_drewN ?_ _) | (with_reducible refine Kd.C_drew ?_))); (case side2 => exact HC112_0.out); rintro e w' ⟨rfl, ⟨nd, rfl⟩⟩; obtain ⟨Ao31, co31, eo31⟩ := Kd.R_slice HO_8.out; subst eo31) | (go_at_call 155; (with_reducible refine (Zbp.calls k4 _ _ x8_3 t114 _ ?side1 ?side2 A28.out).mono ?_); (case side1 => repeat (first | exact (Kd.R_reads' HO_8.out).2.2 | (with_reducible refine Kd.C_alloc ?_ _) | (with_reducible refine Kd.C_drewN ?_ _) | (with_reducible refine Kd.C_drew ?_))); (case side2 => exact (Kd.R_reads' HO_8.out).2.1); rintro e w' ⟨rfl, ⟨nd, rfl⟩⟩))
                 go_roundg k4
                 case measure => have := HK1.out; have := HJ7.out; have := HK3.out; have := HK4.out; omega
                 case rel => exact ⟨(wrap64 (x10_4 + 1)), (by first | rfl | (simp; done) | (simp [*]; done)), H', ⟨by have := HK1.out; have := HJ7.out; have := HK3.out; have := HK4.out; omega⟩, ⟨by (with_reducible repeat (first | apply Kd.N_alloc | apply Kd.N_drewN | apply Kd.N_drew)); exact HO_5.out⟩, ⟨by (with_reducible repeat (first | apply Kd.R_alloc | apply Kd.R_drewN | apply Kd.R_drew)); exact HO_8.out⟩, ⟨by (with_reducible repeat (first | refine Zag ?_ _ | refine Zaj ?_ | refine Zaf ?_ _)); exact K01.out⟩, ⟨by with_reducible repeat first | exact HB.out | apply Zac | apply Zaa | apply Zab | refine Zah ?_ E01.out⟩⟩
                ·rw [if_neg c29] at H
                 have c29b0 : decide (t113 < t114) = false := decide_eq_false c29
                 clear c29
                 obtain ⟨y115, hy115⟩ : ∃ y_ : List (List Int), y_ = (([] : List (List Int))) := ⟨_, rfl⟩
                 replace H : (if x10_4 ≤ (x5_1.length : Int) then ((some (x5_1.take (x10_4 : Int).toNat : List (List Int))).bind fun y118 => (if y115.length + y118.length < 5864062014805 then ((some (y115 ++ y118 : List (List Int))).bind fun y123 => (if y123.length < 5864062014805 then ((some (y123 ++ [x8_3] : List (List Int))).bind fun y126 => ((some (x5_1.drop (x10_4 : Int).toNat : List (List Int))).bind fun y129 => (if y126.length + y129.length < 5864062014805 then (Zam.l0 k4 a1 (y126 ++ y129) l0_2 (l0_2.length : Int) (wrap64 (x15_1 + 1)) a0_0 a0_1 l0_2) else (none)))) else (none))) else (none))) else (none)) = some r := by first | (rw [hy115]; with_reducible exact H) | (have H2_ := (Option.bind_some _ _).symm.trans H; rw [hy115]; with_reducible exact H2_) | (have H2_ := (Option.bind_some _ _).symm.trans H; with_reducible exact H2_) | with_reducible exact H | (rw [hy115]; exact H) | exact H
                 have Ny115 := Zad.mk hy115
                 clear hy115
                 have c32b0 := eq_true (of_decide_eq_true (by first | (with_reducible assumption) | assumption) : 0 ≤ x10_4)
                 by_cases c33 : x10_4 ≤ (x5_1.length : Int)
                 ·rw [if_pos c33] at H
                  have c33b0 := eq_true c33
                  have c33b1 : decide (x10_4 ≤ (x5_1.length : Int)) = true := decide_eq_true c33
                  clear c33
                  obtain ⟨y118, hy118⟩ : ∃ y_ : List (List Int), y_ = (x5_1.take (x10_4 : Int).toNat) := ⟨_, rfl⟩
                  replace H : (if y115.length + y118.length < 5864062014805 then ((some (y115 ++ y118 : List (List Int))).bind fun y123 => (if y123.length < 5864062014805 then ((some (y123 ++ [x8_3] : List (List Int))).bind fun y126 => ((some (x5_1.drop (x10_4 : Int).toNat : List (List Int))).bind fun y129 => (if y126.length + y129.length < 5864062014805 then (Zam.l0 k4 a1 (y126 ++ y129) l0_2 (l0_2.length : Int) (wrap64 (x15_1 + 1)) a0_0 a0_1 l0_2) else (none)))) else (none))) else (none)) = some r := by first | (rw [hy118]; with_reducible exact H) | (have H2_ := (Option.bind_some _ _).symm.trans H; rw [hy118]; with_reducible exact H2_) | (have H2_ := (Option.bind_some _ _).symm.trans H; with_reducible exact H2_) | with_reducible exact H | (rw [hy118]; exact H) | exact H
                  have Ny118 := Zad.mk hy118
                  clear hy118
                  by_cases c34 : y115.length + y118.length < 5864062014805
                  ·rw [if_pos c34] at H
                   have LMc34 := Zad.mk c34
                   clear c34
                   obtain ⟨y123, hy123⟩ : ∃ y_ : List (List Int), y_ = (y115 ++ y118) := ⟨_, rfl⟩
                   replace H : (if y123.length < 5864062014805 then ((some (y123 ++ [x8_3] : List (List Int))).bind fun y126 => ((some (x5_1.drop (x10_4 : Int).toNat : List (List Int))).bind fun y129 => (if y126.length + y129.length < 5864062014805 then (Zam.l0 k4 a1 (y126 ++ y129) l0_2 (l0_2.length : Int) (wrap64 (x15_1 + 1)) a0_0 a0_1 l0_2) else (none)))) else (none)) = some r := by first | (rw [hy123]; with_reducible exact H) | (have H2_ := (Option.bind_some _ _).symm.trans H; rw [hy123]; with_reducible exact H2_) | (have H2_ := (Option.bind_some _ _).symm.trans H; with_reducible exact H2_) | with_reducible exact H | (rw [hy123]; exact H) | exact H
                   have Ny123 := Zad.mk hy123
                   clear hy123
                   by_cases c35 : y123.length < 5864062014805
                   ·rw [if_pos c35] at H
                    have LMc35 := Zad.mk c35
                    clear c35
                    obtain ⟨y126, hy126⟩ : ∃ y_ : List (List Int), y_ = (y123 ++ [x8_3]) := ⟨_, rfl⟩
                    replace H : ((some (x5_1.drop (x10_4 : Int).toNat : List (List Int))).bind fun y129 => (if y126.length + y129.length < 5864062014805 then (Zam.l0 k4 a1 (y126 ++ y129) l0_2 (l0_2.length : Int) (wrap64 (x15_1 + 1)) a0_0 a0_1 l0_2) else (none))) = some r := by first | (rw [hy126]; with_reducible exact H) | (have H2_ := (Option.bind_some _ _).symm.trans H; rw [hy126]; with_reducible exact H2_) | (have H2_ := (Option.bind_some _ _).symm.trans H; with_reducible exact H2_) | with_reducible exact H | (rw [hy126]; exact H) | exact H
                    have Ny126 := Zad.mk hy126
                    clear hy126
                    have c36b0 := eq_true (of_decide_eq_true (by first | (with_reducible assumption) | assumption) : 0 ≤ x10_4)
                    have c37b0 := eq_true (of_decide_eq_true (by first | (with_reducible assumption) | assumption) : x10_4 ≤ (x5_1.length : Int))
                    obtain ⟨y129, hy129⟩ : ∃ y_ : List (List Int), y_ = (x5_1.drop (x10_4 : Int).toNat) := ⟨_, rfl⟩
                    replace H : (if y126.length + y129.length < 5864062014805 then (Zam.l0 k4 a1 (y126 ++ y129) l0_2 (l0_2.length : Int) (wrap64 (x15_1 + 1)) a0_0 a0_1 l0_2) else (none)) = some r := by first | (rw [hy129]; with_reducible exact H) | (have H2_ := (Option.bind_some _ _).symm.trans H; rw [hy129]; with_reducible exact H2_) | (have H2_ := (Option.bind_some _ _).symm.trans H; with_reducible exact H2_) | with_reducible exact H | (rw [hy129]; exact H) | exact H
                    have Ny129 := Zad.mk hy129
                    clear hy129
                    by_cases c38 : y126.length + y129.length < 5864062014805
                    ·rw [if_pos c38] at H
                     have LMc38 := Zad.mk c38
                     clear c38
                     obtain ⟨y134, hy134⟩ : ∃ y_ : List (List Int), y_ = (y126 ++ y129) := ⟨_, rfl⟩
                     replace H : (Zam.l0 k4 a1 y134 l0_2 (l0_2.length : Int) (wrap64 (x15_1 + 1)) a0_0 a0_1 l0_2) = some r := by first | (rw [hy134]; with_reducible exact H) | (have H2_ := (Option.bind_some _ _).symm.trans H; rw [hy134]; with_reducible exact H2_) | (have H2_ := (Option.bind_some _ _).symm.trans H; with_reducible exact H2_) | with_reducible exact H | (rw [hy134]; exact H) | exact H
                     have Ny134 := Zad.mk hy134
                     clear hy134
                     have H' := Zad.mk H
                     clear H
                     obtain ⟨Ao39, co39, eo39⟩ := Kd.N_slice HO_5.out
                     subst eo39
                     have p112 : 0 ≤ (x10_4 : Int) := of_decide_eq_true (by first | (with_reducible assumption) | assumption)
                     have q112 : x10_4 < (x5_1.length : Int) := of_decide_eq_true (by first | (with_reducible assumption) | assumption)
                     obtain ⟨ad112, A112_0, c112_0, e112, hx112_0, hl112_0, hi112_0⟩ := at_L3 (Kd.N_reads' HO_5.out).2.2 x10_4 p112 q112
                     cases e112
                     obtain ⟨ce112, hce112, hMe112, hcc112⟩ := Kd.N_get HO_5.out [] x10_4 p112 (by first | exact q112 | exact of_decide_eq_true (by first | (with_reducible assumption) | assumption) | (have e_ := (Kd.N_reads' HO_5.out).1; omega))
                     obtain ⟨ua112_0, uc112_0, rfl, ul112_0, ge112_0⟩ := Kd.FK_slice_open hMe112
                     have hv112_0 := hcc112 0 _ rfl
                     rw [Nat.add_zero, show ((Kd.slice 3 (Kd.int .i64))).sz = 1 from rfl, Nat.mul_one] at hv112_0
                     replace hv112_0 := Option.some.inj (hv112_0.symm.trans hx112_0)
                     injection hv112_0 with hva_ hvn_ hvc_
                     rw [hva_] at ge112_0
                     rw [hvc_] at ul112_0
                     have HL112_0 := Zad.mk (show Kd.V (Kd.int .i64) 3 _ w.heap.size _ _ (rd_L3 x5_1 x10_4) from Kd.V_mk ul112_0 ge112_0)
                     clear hva_ hvn_ hvc_ ge112_0 ul112_0
                     clear hcc112 hce112
                     have HR112_0 := Zad.mk hi112_0
                     have HC112_0 := Zad.mk hl112_0
                     clear hi112_0 hl112_0
                     replace p112 := eq_true p112
                     replace q112 := eq_true q112
                     go_wp2_with (first | (go_at_call 155; (with_reducible refine (Zbp.calls k4 _ _ (rd_L3 x5_1 x10_4) t113 _ ?side1 ?side2 A27.out).mono ?_); (case side1 => repeat (first | exact (by repeat (first | (with_reducible exact HR112_0.out) | (with_reducible refine Kd.C_alloc ?_ _) | (with_reducible refine Kd.C_drewN ?_ _) | (with_reducible refine Kd.C_drew ?_) | exact HR112_0.out)) | (with_reducible refine Kd.C_alloc ?_ _) | (with_reducible refine Kd.C_drewN ?_ _) | (with_reducible refine Kd.C_drew ?_))); (case side2 => exact HC112_0.out); rintro e w' ⟨rfl, ⟨nd, rfl⟩⟩; obtain ⟨Ao40, co40, eo40⟩ := Kd.R_slice HO_8.out; subst eo40) | (go_at_call 155; (with_reducible refine (Zbp.calls k4 _ _ x8_3 t114 _ ?side1 ?side2 A28.out).mono ?_); (case side1 => repeat (first | exact (Kd.R_reads' HO_8.out).2.2 | (with_reducible refine Kd.C_alloc ?_ _) | (with_reducible refine Kd.C_drewN ?_ _) | (with_reducible refine Kd.C_drew ?_))); (case side2 => exact (Kd.R_reads' HO_8.out).2.1); rintro e w' ⟨rfl, ⟨nd, rfl⟩⟩) | ((with_reducible refine Zay (N := 65) rfl ?_); refine Kd.N_lit (Kd.slice 3 (Kd.int .i64)) _ 31 ?hg (N' := 65) ?hd (xs := ([] : List (List Int))) (inner := []) (ok := (fun k_ => (w.heap.size ≤ k_) ∧ some k_ ≠ (.slice (some ad112) x5_1.length co39 : Value).ownBlock ∧ some k_ ≠ (.slice Ao40 x8_3.length co40 : Value).ownBlock ∧ k_ ≠ g01)) (okp := (fun k_ => (w.heap.size ≤ k_) ∧ some k_ ≠ (.slice (some ad112) x5_1.length co39 : Value).ownBlock ∧ some k_ ≠ (.slice Ao40 x8_3.length co40 : Value).ownBlock ∧ k_ ≠ g01)) ?hr ?hp (fun _ hk => hk) ((show ∀ k_, wr.heap.size ≤ k_ → (fun k_ => (w.heap.size ≤ k_) ∧ some k_ ≠ (.slice (some ad112) x5_1.length co39 : Value).ownBlock ∧ some k_ ≠ (.slice Ao40 x8_3.length co40 : Value).ownBlock ∧ k_ ≠ g01) k_ from fun k_ hk => ⟨(Nat.le_trans (Zak (by with_reducible repeat first | exact HB.out | apply Zac | apply Zaa | apply Zab | refine Zah ?_ E01.out)) hk), Kd.fresh' (Kd.N_lt (by (with_reducible repeat (first | apply Kd.N_alloc | apply Kd.N_drewN | apply Kd.N_drew)); exact HO_5.out)) k_ hk, Kd.fresh' (Kd.R_lt (by (with_reducible repeat (first | apply Kd.R_alloc | apply Kd.R_drewN | apply Kd.R_drew)); exact HO_8.out)) k_ hk, Kd.freshB (g := g01) (o := .cells #[.int .i64 a0_0, .int .i64 a0_1, .slice (some ad102) l0_2.length c0_2] 52 (0, 0)) (by (with_reducible repeat (first | refine Zag ?_ _ | refine Zaj ?_ | refine Zaf ?_ _)); exact K01.out) k_ hk⟩) _ (Nat.le_refl _)) (Below.refl _ _) (Nat.le_refl _) (by simp) ?_; (case hd => rfl); (case hg => rfl); (case hr => first | (go_simp; done) | (go_simp; rfl)); (case hp => exact (Reps.none _ _)); intro v116 w41 ho42 hb hg_ hnew_; clear hg_ hnew_; (first | rw [← Ny115.out] at ho42 | (simp only [Int.reduceToNat] at ho42; rw [← Ny115.out] at ho42)); have n0_ := Zad.mk (Kd.N_elder' (by (with_reducible repeat (first | apply Kd.N_alloc | apply Kd.N_drewN | apply Kd.N_drew)); exact HO_5.out) (Kd.N_base ho42) hb); have n1_ := Zad.mk (Kd.R_below (by (with_reducible repeat (first | apply Kd.R_alloc | apply Kd.R_drewN | apply Kd.R_drew)); exact HO_8.out) hb); have n2_ := Zad.mk (Kd.V_elder' (by (with_reducible repeat (first | apply Kd.V_alloc | apply Kd.V_drewN | apply Kd.V_drew)); exact HL112_0.out) (Kd.N_base ho42) hb); have n3_ := Zad.mk (Kd.N_lower ho42 (Zak (by with_reducible repeat first | exact HB.out | apply Zac | apply Zaa | apply Zab | refine Zah ?_ E01.out))); have n4_ := Zad.mk (Zav (g := g01) (o := .cells #[.int .i64 a0_0, .int .i64 a0_1, .slice (some ad102) l0_2.length c0_2] 52 (0, 0)) (by (with_reducible repeat (first | refine Zag ?_ _ | refine Zaj ?_ | refine Zaf ?_ _)); exact K01.out) hb); have n5_ := Zad.mk (Kd.C_below (by repeat (first | (with_reducible exact HR112_0.out) | (with_reducible refine Kd.C_alloc ?_ _) | (with_reducible refine Kd.C_drewN ?_ _) | (with_reducible refine Kd.C_drew ?_) | exact HR112_0.out)) hb); have n6_ := Zad.mk (Zal (by with_reducible repeat first | exact HB.out | apply Zac | apply Zaa | apply Zab | refine Zah ?_ E01.out) hb); clear HO_5; clear HO_8; clear HL112_0; clear K01; clear HR112_0; clear HB; have HO_5 := n0_; have HO_8 := n1_; have HL112_0 := n2_; have HO117 := n3_; have K01 := n4_; have HR112_0 := n5_; have HB := n6_; clear hb ho42; have q43 : (x10_4 : Int) ≤ ((x5_1.length : Int) : Int) := of_decide_eq_true (by first | (with_reducible assumption) | assumption); obtain ⟨i043, hi043, _, hsz43, _⟩ := info_parts Zdj; have hroom43 : x5_1.length ≤ co39 := (Kd.N_reads' HO_5.out).2.1; have hC43 : Kd.F (Kd.slice 3 (Kd.int .i64)) _ _ (some ad112) x5_1.length x5_1 := (Kd.V_at (base := w.heap.size) (Kd.N_V HO_5.out)).2.2; have hcut43 := Zg7 (P := Tryz.prog) 56 31 .i64 Tryz.underlying56 hi043 (some ad112) x5_1.length co39 x10_4 (of_decide_eq_true (by first | (with_reducible assumption) | assumption)) q43 hroom43; have hr43 := Kd.F_take (m := (x10_4 : Int).toNat) hC43 (by omega); have hy43 : y118.length = (x10_4 : Int).toNat := (by rw [Ny118.out, List.length_take]; omega); rw [← Ny118.out] at hr43; rw [← hy43] at hcut43; have HO122 := Zad.mk (show Kd.V (Kd.slice 3 (Kd.int .i64)) 31 _ w.heap.size _ (.slice (some ad112) y118.length co39) y118 from Kd.V_mk (by omega) hr43); have HC122 := Zad.mk (show y118.length ≤ co39 from by omega); clear hr43 hC43 hroom43 hi043 hsz43; have KY43 := Zad.mk hy43; clear hy43; replace q43 := eq_true q43) | ((with_reducible refine Za9 (b := .append) (xs := #[.tmp 65, .tmp 68]) rfl ?_); at_builtin; refine Kd.N_append_rows (Kd.slice 3 (Kd.int .i64)) (w0 := w) w.heap.size rfl (.tmp 65) (.tmp 68) 56 31 (.slice none 0 0) 24 rfl Tryz.underlying56 Zdj rfl (by decide) (by omega) v116 y115 y118 _ _ _ (fun k_ => (w.heap.size ≤ k_) ∧ some k_ ≠ (.slice Ao40 x8_3.length co40 : Value).ownBlock ∧ k_ ≠ g01) (fun k_ => ((fun k_ => (w.heap.size ≤ k_) ∧ some k_ ≠ (.slice Ao40 x8_3.length co40 : Value).ownBlock ∧ k_ ≠ g01)) k_ ∧ some k_ ≠ (v116 : Value).ownBlock) rfl rfl ?aO ?aR (fun _ hk => hk) ?aF ?aB ?aS ?aL ?_; (case aR => exact (by skip; exact Kd.V_F (Kd.V_mono (ok' := (fun k_ => ((fun k_ => (w.heap.size ≤ k_) ∧ some k_ ≠ (.slice Ao40 x8_3.length co40 : Value).ownBlock ∧ k_ ≠ g01)) k_ ∧ some k_ ≠ (v116 : Value).ownBlock)) (HO122.out) (fun k_ hk => ⟨⟨hk.1.1, ⟨hk.1.2.1, hk.1.2.2⟩⟩, hk.2⟩)))); (case aB => exact (by with_reducible repeat first | exact HB.out | apply Zac | apply Zaa | apply Zab | refine Zah ?_ E01.out)); (case aF => exact (fun k_ hk => ⟨(Nat.le_trans (Zak (by with_reducible repeat first | exact HB.out | apply Zac | apply Zaa | apply Zab | refine Zah ?_ E01.out)) hk), Kd.fresh' (Kd.R_lt (by (with_reducible repeat (first | apply Kd.R_alloc | apply Kd.R_drewN | apply Kd.R_drew)); exact HO_8.out)) k_ hk, Kd.freshB (g := g01) (o := .cells #[.int .i64 a0_0, .int .i64 a0_1, .slice (some ad102) l0_2.length c0_2] 52 (0, 0)) (by (with_reducible repeat (first | refine Zag ?_ _ | refine Zaj ?_ | refine Zaf ?_ _)); exact K01.out) k_ hk⟩)); (case aO => exact (by (with_reducible repeat (first | apply Kd.N_alloc | apply Kd.N_drewN | apply Kd.N_drew)); exact Kd.N_mono HO117.out (fun _ hk => ⟨hk.1, ⟨hk.2.2.1, hk.2.2.2⟩⟩))); (case aS => exact (Zak (by with_reducible repeat first | exact HB.out | apply Zac | apply Zaa | apply Zab | refine Zah ?_ E01.out))); (case aL => have := LMc34.out; omega); intro v124 w44 ho hb hg hat; rw [← Ny123.out] at ho; have n0_ := Zad.mk (Kd.N_afterv (ok := (fun k_ => (w.heap.size ≤ k_) ∧ some k_ ≠ (.slice Ao40 x8_3.length co40 : Value).ownBlock ∧ k_ ≠ g01)) (by (with_reducible repeat (first | apply Kd.N_alloc | apply Kd.N_drewN | apply Kd.N_drew)); exact HO_5.out) hg hat); have n1_ := Zad.mk (Kd.R_over' (by (with_reducible repeat (first | apply Kd.R_alloc | apply Kd.R_drewN | apply Kd.R_drew)); exact HO_8.out) (Kd.N_typed (by (with_reducible repeat (first | apply Kd.N_alloc | apply Kd.N_drewN | apply Kd.N_drew)); exact HO117.out)) (by decide) hg); have n2_ := Zad.mk (Zbf (g := g01) (o := .cells #[.int .i64 a0_0, .int .i64 a0_1, .slice (some ad102) l0_2.length c0_2] 52 (0, 0)) (by (with_reducible repeat (first | refine Zag ?_ _ | refine Zaj ?_ | refine Zaf ?_ _)); exact K01.out) hg (Kd.N_ne HO117.out K01.out (by decide))); have n3_ := Zad.mk (Kd.V_afterv (ok := (fun k_ => (w.heap.size ≤ k_) ∧ some k_ ≠ (.slice (some ad112) x5_1.length co39 : Value).ownBlock ∧ some k_ ≠ (.slice Ao40 x8_3.length co40 : Value).ownBlock ∧ k_ ≠ g01)) (by (with_reducible repeat (first | apply Kd.V_alloc | apply Kd.V_drewN | apply Kd.V_drew)); exact Kd.V_mono HL112_0.out (fun _ hk => ⟨⟨hk.1.1.1, ⟨hk.1.2, ⟨hk.1.1.2.1, hk.1.1.2.2⟩⟩⟩, hk.2⟩)) hg hat); have n4_ := Zad.mk (Kd.V_afterv (ok := (fun k_ => (w.heap.size ≤ k_) ∧ some k_ ≠ (.slice Ao40 x8_3.length co40 : Value).ownBlock ∧ k_ ≠ g01)) (by (with_reducible repeat (first | apply Kd.V_alloc | apply Kd.V_drewN | apply Kd.V_drew)); exact HO122.out) hg hat); have n5_ := Zad.mk (hb); have n6_ := Zad.mk (ho); clear HO_5; clear HO_8; clear K01; clear HL112_0; clear HO122; clear HB; clear HO117; have HO_5 := n0_; have HO_8 := n1_; have K01 := n2_; have HL112_0 := n3_; have HO122 := n4_; have HB := n5_; have HO125 := n6_; clear ho hb hg hat) | ((with_reducible refine Za9 (b := .append) (xs := #[.tmp 69, .tmp 71]) rfl ?_); at_builtin; refine Kd.N_append (Kd.slice 3 (Kd.int .i64)) (w0 := w) w.heap.size rfl (.tmp 69) (.tmp 71) 56 31 (.slice none 0 0) 24 rfl Tryz.underlying56 Zdj rfl (by decide) (by omega) v124 y123 x8_3 [.slice Ao40 x8_3.length co40] (fun k_ => (w.heap.size ≤ k_) ∧ k_ ≠ g01) (fun k_ => ((fun k_ => (w.heap.size ≤ k_) ∧ k_ ≠ g01)) k_ ∧ some k_ ≠ (v124 : Value).ownBlock) rfl rfl ?aP (fun _ hk => hk) ?aF ?aO ?aB ?aS ?aL ?_; (case aP => exact (Kd.FK_slice_mk (Kd.R_reads' (Kd.R_mono (ok' := (fun k_ => ((fun k_ => (w.heap.size ≤ k_) ∧ k_ ≠ g01)) k_ ∧ some k_ ≠ (v124 : Value).ownBlock)) (Kd.R_types (Kd.R_apart' (HO_8.out) (Kd.N_typed HO125.out) (by decide)) K01.out (by decide)) (fun k_ hk => ⟨⟨hk.1.1, hk.2⟩, hk.1.2⟩))).2.1 (Kd.R_F (Kd.R_mono (ok' := (fun k_ => ((fun k_ => (w.heap.size ≤ k_) ∧ k_ ≠ g01)) k_ ∧ some k_ ≠ (v124 : Value).ownBlock)) (Kd.R_types (Kd.R_apart' (HO_8.out) (Kd.N_typed HO125.out) (by decide)) K01.out (by decide)) (fun k_ hk => ⟨⟨hk.1.1, hk.2⟩, hk.1.2⟩))))); (case aB => exact (by with_reducible repeat first | exact HB.out | apply Zac | apply Zaa | apply Zab | refine Zah ?_ E01.out)); (case aF => exact (fun k_ hk => ⟨(Nat.le_trans (Zak (by with_reducible repeat first | exact HB.out | apply Zac | apply Zaa | apply Zab | refine Zah ?_ E01.out)) hk), Kd.freshB (g := g01) (o := .cells #[.int .i64 a0_0, .int .i64 a0_1, .slice (some ad102) l0_2.length c0_2] 52 (0, 0)) (by (with_reducible repeat (first | refine Zag ?_ _ | refine Zaj ?_ | refine Zaf ?_ _)); exact K01.out) k_ hk⟩)); (case aO => exact (by (with_reducible repeat (first | apply Kd.N_alloc | apply Kd.N_drewN | apply Kd.N_drew)); exact Kd.N_mono HO125.out (fun _ hk => ⟨hk.1, hk.2.2⟩))); (case aS => exact (Zak (by with_reducible repeat first | exact HB.out | apply Zac | apply Zaa | apply Zab | refine Zah ?_ E01.out))); (case aL => have := LMc35.out; omega); intro v127 w45 ho hb hg hat; rw [← Ny126.out] at ho; have n0_ := Zad.mk (Kd.N_afterv (ok := (fun k_ => (w.heap.size ≤ k_) ∧ some k_ ≠ (.slice Ao40 x8_3.length co40 : Value).ownBlock ∧ k_ ≠ g01)) (by (with_reducible repeat (first | apply Kd.N_alloc | apply Kd.N_drewN | apply Kd.N_drew)); exact HO_5.out) hg hat); have n1_ := Zad.mk (Zbf (g := g01) (o := .cells #[.int .i64 a0_0, .int .i64 a0_1, .slice (some ad102) l0_2.length c0_2] 52 (0, 0)) (by (with_reducible repeat (first | refine Zag ?_ _ | refine Zaj ?_ | refine Zaf ?_ _)); exact K01.out) hg (Kd.N_ne HO125.out K01.out (by decide))); have n2_ := Zad.mk (Kd.V_afterv (ok := (fun k_ => (w.heap.size ≤ k_) ∧ some k_ ≠ (.slice (some ad112) x5_1.length co39 : Value).ownBlock ∧ some k_ ≠ (.slice Ao40 x8_3.length co40 : Value).ownBlock ∧ k_ ≠ g01)) (by (with_reducible repeat (first | apply Kd.V_alloc | apply Kd.V_drewN | apply Kd.V_drew)); exact HL112_0.out) hg hat); have n3_ := Zad.mk (Kd.V_afterv (ok := (fun k_ => (w.heap.size ≤ k_) ∧ some k_ ≠ (.slice Ao40 x8_3.length co40 : Value).ownBlock ∧ k_ ≠ g01)) (by (with_reducible repeat (first | apply Kd.V_alloc | apply Kd.V_drewN | apply Kd.V_drew)); exact HO122.out) hg hat); have n4_ := Zad.mk (hb); have n5_ := Zad.mk (ho); clear HO_5; clear K01; clear HL112_0; clear HO122; clear HB; clear HO125; clear HO_8; have HO_5 := n0_; have K01 := n1_; have HL112_0 := n2_; have HO122 := n3_; have HB := n4_; have HO128 := n5_; clear ho hb hg hat; have q46 : (x10_4 : Int) ≤ ((x5_1.length : Int) : Int) := of_decide_eq_true (by first | (with_reducible assumption) | assumption); obtain ⟨i046, hi046, _, hsz46, _⟩ := info_parts Zdj; have hroom46 : x5_1.length ≤ co39 := (Kd.N_reads' HO_5.out).2.1; have hC46 : Kd.F (Kd.slice 3 (Kd.int .i64)) _ _ (some ad112) x5_1.length x5_1 := (Kd.V_at (base := w.heap.size) (Kd.N_V HO_5.out)).2.2; have q046 : (0 : Int) ≤ (x10_4 : Int) := of_decide_eq_true (by first | (with_reducible assumption) | assumption); have hcut46 := Zgh (P := Tryz.prog) 56 31 .i64 Tryz.underlying56 hi046 1 hsz46 (some ad112) x5_1.length co39 x10_4 q046 q46; have hr46 := Kd.F_cut (m := (x10_4 : Int).toNat) (c := co39) hC46 (by omega) hroom46; obtain ⟨A46, hA46⟩ : ∃ A1, A1 = (if co39 = (x10_4 : Int).toNat then (some ad112) else ((some ad112) : Option Addr).map (·.add ((x10_4 : Int).toNat * 1))) := ⟨_, rfl⟩; obtain ⟨c46, hc46⟩ : ∃ c1, c1 = co39 - (x10_4 : Int).toNat := ⟨_, rfl⟩; have hy46 : y129.length = x5_1.length - (x10_4 : Int).toNat := (by rw [Ny129.out, List.length_drop] <;> omega); rw [show (x5_1).drop (x10_4 : Int).toNat = y129 from Ny129.out.symm] at hr46; replace hr46 : Kd.F (Kd.slice 3 (Kd.int .i64)) _ _ A46 y129.length y129 := (by rw [hA46]; exact hr46); rw [← hy46, ← hA46, ← hc46] at hcut46; have HO133 := Zad.mk (show Kd.V (Kd.slice 3 (Kd.int .i64)) 31 _ w.heap.size _ (.slice A46 y129.length c46) y129 from Kd.V_mk (by rw [hy46, hc46]; exact Nat.sub_le_sub_right hroom46 _) hr46); have HC133 := Zad.mk (show y129.length ≤ c46 from by rw [hy46, hc46]; exact Nat.sub_le_sub_right hroom46 _); clear hr46 hC46 hroom46 hi046 hsz46 hc46; have KY46 := Zad.mk hy46; have KA46 := Zad.mk hA46; clear hy46 hA46; replace q46 := eq_true q46) | ((with_reducible refine Za9 (b := .append) (xs := #[.tmp 73, .tmp 76]) rfl ?_); at_builtin; refine Kd.N_append_rows (Kd.slice 3 (Kd.int .i64)) (w0 := w) w.heap.size rfl (.tmp 73) (.tmp 76) 56 31 (.slice none 0 0) 24 rfl Tryz.underlying56 Zdj rfl (by decide) (by omega) v127 y126 y129 _ _ _ (fun k_ => (w.heap.size ≤ k_) ∧ k_ ≠ g01) (fun k_ => ((fun k_ => (w.heap.size ≤ k_) ∧ k_ ≠ g01)) k_ ∧ some k_ ≠ (v127 : Value).ownBlock) rfl rfl ?aO ?aR (fun _ hk => hk) ?aF ?aB ?aS ?aL ?_; (case aR => exact (by skip; exact Kd.V_F (Kd.V_mono (ok' := (fun k_ => ((fun k_ => (w.heap.size ≤ k_) ∧ k_ ≠ g01)) k_ ∧ some k_ ≠ (v127 : Value).ownBlock)) (HO133.out) (fun k_ hk => ⟨⟨hk.1.1, hk.1.2.2⟩, hk.2⟩)))); (case aB => exact (by with_reducible repeat first | exact HB.out | apply Zac | apply Zaa | apply Zab | refine Zah ?_ E01.out)); (case aF => exact (fun k_ hk => ⟨(Nat.le_trans (Zak (by with_reducible repeat first | exact HB.out | apply Zac | apply Zaa | apply Zab | refine Zah ?_ E01.out)) hk), Kd.freshB (g := g01) (o := .cells #[.int .i64 a0_0, .int .i64 a0_1, .slice (some ad102) l0_2.length c0_2] 52 (0, 0)) (by (with_reducible repeat (first | refine Zag ?_ _ | refine Zaj ?_ | refine Zaf ?_ _)); exact K01.out) k_ hk⟩)); (case aO => exact (by (with_reducible repeat (first | apply Kd.N_alloc | apply Kd.N_drewN | apply Kd.N_drew)); exact HO128.out)); (case aS => exact (Zak (by with_reducible repeat first | exact HB.out | apply Zac | apply Zaa | apply Zab | refine Zah ?_ E01.out))); (case aL => have := LMc38.out; omega); intro v135 w47 ho hb hg hat; rw [← Ny134.out] at ho; have n0_ := Zad.mk (Kd.N_afterv (ok := (fun k_ => (w.heap.size ≤ k_) ∧ k_ ≠ g01)) (by (with_reducible repeat (first | apply Kd.N_alloc | apply Kd.N_drewN | apply Kd.N_drew)); exact Kd.N_mono HO_5.out (fun _ hk => ⟨⟨hk.1.1, hk.1.2.2⟩, hk.2⟩)) hg hat); have n1_ := Zad.mk (Zbf (g := g01) (o := .cells #[.int .i64 a0_0, .int .i64 a0_1, .slice (some ad102) l0_2.length c0_2] 52 (0, 0)) (by (with_reducible repeat (first | refine Zag ?_ _ | refine Zaj ?_ | refine Zaf ?_ _)); exact K01.out) hg (Kd.N_ne HO128.out K01.out (by decide))); have n2_ := Zad.mk (Kd.V_afterv (ok := (fun k_ => (w.heap.size ≤ k_) ∧ some k_ ≠ (.slice (some ad112) x5_1.length co39 : Value).ownBlock ∧ k_ ≠ g01)) (by (with_reducible repeat (first | apply Kd.V_alloc | apply Kd.V_drewN | apply Kd.V_drew)); exact Kd.V_mono HL112_0.out (fun _ hk => ⟨⟨hk.1.1, ⟨hk.1.2.1, hk.1.2.2.2⟩⟩, hk.2⟩)) hg hat); have n3_ := Zad.mk (Kd.V_afterv (ok := (fun k_ => (w.heap.size ≤ k_) ∧ k_ ≠ g01)) (by (with_reducible repeat (first | apply Kd.V_alloc | apply Kd.V_drewN | apply Kd.V_drew)); exact Kd.V_mono HO122.out (fun _ hk => ⟨⟨hk.1.1, hk.1.2.2⟩, hk.2⟩)) hg hat); have n4_ := Zad.mk (Kd.V_afterv (ok := (fun k_ => (w.heap.size ≤ k_) ∧ k_ ≠ g01)) (by (with_reducible repeat (first | apply Kd.V_alloc | apply Kd.V_drewN | apply Kd.V_drew)); exact Kd.V_mono HO133.out (fun _ hk => ⟨⟨hk.1.1, hk.1.2.2⟩, hk.2⟩)) hg hat); have n5_ := Zad.mk (hb); have n6_ := Zad.mk (ho); clear HO_5; clear K01; clear HL112_0; clear HO122; clear HO133; clear HB; clear HO128; have HO_5 := n0_; have K01 := n1_; have HL112_0 := n2_; have HO122 := n3_; have HO133 := n4_; have HB := n5_; have HO136 := n6_; clear ho hb hg hat))
                     go_roundg k4
                     case measure => have := HK1.out; have := HJ7.out; have := HK3.out; have := HK4.out; omega
                     case rel => exact ⟨(y134), (wrap64 (x15_1 + 1)), (by first | rfl | (simp; done) | (simp [*]; done)), H', ⟨by have := HK1.out; have := HJ7.out; have := HK3.out; have := HK4.out; omega⟩, ⟨by (with_reducible repeat (first | apply Kd.N_alloc | apply Kd.N_drewN | apply Kd.N_drew)); exact HO136.out⟩, ⟨by (with_reducible repeat (first | refine Zag ?_ _ | refine Zaj ?_ | refine Zaf ?_ _)); exact K01.out⟩, ⟨by with_reducible repeat first | exact HB.out | apply Zac | apply Zaa | apply Zab | refine Zah ?_ E01.out⟩⟩
                    ·rw [if_neg c38] at H
                     exact absurd H (by simp)
                   ·rw [if_neg c35] at H
                    exact absurd H (by simp)
                  ·rw [if_neg c34] at H
                   exact absurd H (by simp)
                 ·rw [if_neg c33] at H
                  exact absurd H (by simp)
               ·rw [if_neg c26] at H
                exact absurd H (by simp)
              ·rw [if_neg c25] at H
               have c25b0 : decide (x10_4 < (x5_1.length : Int)) = false := decide_eq_false c25
               clear c25
               obtain ⟨y137, hy137⟩ : ∃ y_ : List (List Int), y_ = (([] : List (List Int))) := ⟨_, rfl⟩
               replace H : (if 0 ≤ x10_4 then (if x10_4 ≤ (x5_1.length : Int) then ((some (x5_1.take (x10_4 : Int).toNat : List (List Int))).bind fun y140 => (if y137.length + y140.length < 5864062014805 then ((some (y137 ++ y140 : List (List Int))).bind fun y145 => (if y145.length < 5864062014805 then ((some (y145 ++ [x8_3] : List (List Int))).bind fun y148 => ((some (x5_1.drop (x10_4 : Int).toNat : List (List Int))).bind fun y151 => (if y148.length + y151.length < 5864062014805 then (Zam.l0 k4 a1 (y148 ++ y151) l0_2 (l0_2.length : Int) (wrap64 (x15_1 + 1)) a0_0 a0_1 l0_2) else (none)))) else (none))) else (none))) else (none)) else (none)) = some r := by first | (rw [hy137]; with_reducible exact H) | (have H2_ := (Option.bind_some _ _).symm.trans H; rw [hy137]; with_reducible exact H2_) | (have H2_ := (Option.bind_some _ _).symm.trans H; with_reducible exact H2_) | with_reducible exact H | (rw [hy137]; exact H) | exact H
               have Ny137 := Zad.mk hy137
               clear hy137
               by_cases c48 : 0 ≤ x10_4
               ·rw [if_pos c48] at H
                have c48b0 := eq_true c48
                have c48b1 : decide (0 ≤ x10_4) = true := decide_eq_true c48
                clear c48
                by_cases c49 : x10_4 ≤ (x5_1.length : Int)
                ·rw [if_pos c49] at H
                 have c49b0 := eq_true c49
                 have c49b1 : decide (x10_4 ≤ (x5_1.length : Int)) = true := decide_eq_true c49
                 clear c49
                 obtain ⟨y140, hy140⟩ : ∃ y_ : List (List Int), y_ = (x5_1.take (x10_4 : Int).toNat) := ⟨_, rfl⟩
                 replace H : (if y137.length + y140.length < 5864062014805 then ((some (y137 ++ y140 : List (List Int))).bind fun y145 => (if y145.length < 5864062014805 then ((some (y145 ++ [x8_3] : List (List Int))).bind fun y148 => ((some (x5_1.drop (x10_4 : Int).toNat : List (List Int))).bind fun y151 => (if y148.length + y151.length < 5864062014805 then (Zam.l0 k4 a1 (y148 ++ y151) l0_2 (l0_2.length : Int) (wrap64 (x15_1 + 1)) a0_0 a0_1 l0_2) else (none)))) else (none))) else (none)) = some r := by first | (rw [hy140]; with_reducible exact H) | (have H2_ := (Option.bind_some _ _).symm.trans H; rw [hy140]; with_reducible exact H2_) | (have H2_ := (Option.bind_some _ _).symm.trans H; with_reducible exact H2_) | with_reducible exact H | (rw [hy140]; exact H) | exact H
                 have Ny140 := Zad.mk hy140
                 clear hy140
                 by_cases c50 : y137.length + y140.length < 5864062014805
                 ·rw [if_pos c50] at H
                  have LMc50 := Zad.mk c50
                  clear c50
                  obtain ⟨y145, hy145⟩ : ∃ y_ : List (List Int), y_ = (y137 ++ y140) := ⟨_, rfl⟩
                  replace H : (if y145.length < 5864062014805 then ((some (y145 ++ [x8_3] : List (List Int))).bind fun y148 => ((some (x5_1.drop (x10_4 : Int).toNat : List (List Int))).bind fun y151 => (if y148.length + y151.length < 5864062014805 then (Zam.l0 k4 a1 (y148 ++ y151) l0_2 (l0_2.length : Int) (wrap64 (x15_1 + 1)) a0_0 a0_1 l0_2) else (none)))) else (none)) = some r := by first | (rw [hy145]; with_reducible exact H) | (have H2_ := (Option.bind_some _ _).symm.trans H; rw [hy145]; with_reducible exact H2_) | (have H2_ := (Option.bind_some _ _).symm.trans H; with_reducible exact H2_) | with_reducible exact H | (rw [hy145]; exact H) | exact H
                  have Ny145 := Zad.mk hy145
                  clear hy145
                  by_cases c51 : y145.length < 5864062014805
                  ·rw [if_pos c51] at H
                   have LMc51 := Zad.mk c51
                   clear c51
                   obtain ⟨y148, hy148⟩ : ∃ y_ : List (List Int), y_ = (y145 ++ [x8_3]) := ⟨_, rfl⟩
                   replace H : ((some (x5_1.drop (x10_4 : Int).toNat : List (List Int))).bind fun y151 => (if y148.length + y151.length < 5864062014805 then (Zam.l0 k4 a1 (y148 ++ y151) l0_2 (l0_2.length : Int) (wrap64 (x15_1 + 1)) a0_0 a0_1 l0_2) else (none))) = some r := by first | (rw [hy148]; with_reducible exact H) | (have H2_ := (Option.bind_some _ _).symm.trans H; rw [hy148]; with_reducible exact H2_) | (have H2_ := (Option.bind_some _ _).symm.trans H; with_reducible exact H2_) | with_reducible exact H | (rw [hy148]; exact H) | exact H
                   have Ny148 := Zad.mk hy148
                   clear hy148
                   have c52b0 := eq_true (of_decide_eq_true (by first | (with_reducible assumption) | assumption) : 0 ≤ x10_4)
                   have c53b0 := eq_true (of_decide_eq_true (by first | (with_reducible assumption) | assumption) : x10_4 ≤ (x5_1.length : Int))
                   obtain ⟨y151, hy151⟩ : ∃ y_ : List (List Int), y_ = (x5_1.drop (x10_4 : Int).toNat) := ⟨_, rfl⟩
                   replace H : (if y148.length + y151.length < 5864062014805 then (Zam.l0 k4 a1 (y148 ++ y151) l0_2 (l0_2.length : Int) (wrap64 (x15_1 + 1)) a0_0 a0_1 l0_2) else (none)) = some r := by first | (rw [hy151]; with_reducible exact H) | (have H2_ := (Option.bind_some _ _).symm.trans H; rw [hy151]; with_reducible exact H2_) | (have H2_ := (Option.bind_some _ _).symm.trans H; with_reducible exact H2_) | with_reducible exact H | (rw [hy151]; exact H) | exact H
                   have Ny151 := Zad.mk hy151
                   clear hy151
                   by_cases c54 : y148.length + y151.length < 5864062014805
                   ·rw [if_pos c54] at H
                    have LMc54 := Zad.mk c54
                    clear c54
                    obtain ⟨y156, hy156⟩ : ∃ y_ : List (List Int), y_ = (y148 ++ y151) := ⟨_, rfl⟩
                    replace H : (Zam.l0 k4 a1 y156 l0_2 (l0_2.length : Int) (wrap64 (x15_1 + 1)) a0_0 a0_1 l0_2) = some r := by first | (rw [hy156]; with_reducible exact H) | (have H2_ := (Option.bind_some _ _).symm.trans H; rw [hy156]; with_reducible exact H2_) | (have H2_ := (Option.bind_some _ _).symm.trans H; with_reducible exact H2_) | with_reducible exact H | (rw [hy156]; exact H) | exact H
                    have Ny156 := Zad.mk hy156
                    clear hy156
                    have H' := Zad.mk H
                    clear H
                    obtain ⟨Ao55, co55, eo55⟩ := Kd.N_slice HO_5.out
                    subst eo55
                    go_wp2_with (first | ((with_reducible refine Zay (N := 65) rfl ?_); refine Kd.N_lit (Kd.slice 3 (Kd.int .i64)) _ 31 ?hg (N' := 65) ?hd (xs := ([] : List (List Int))) (inner := []) (ok := (fun k_ => (w.heap.size ≤ k_) ∧ some k_ ≠ (.slice Ao55 x5_1.length co55 : Value).ownBlock ∧ some k_ ≠ (u8 : Value).ownBlock ∧ k_ ≠ g01)) (okp := (fun k_ => (w.heap.size ≤ k_) ∧ some k_ ≠ (.slice Ao55 x5_1.length co55 : Value).ownBlock ∧ some k_ ≠ (u8 : Value).ownBlock ∧ k_ ≠ g01)) ?hr ?hp (fun _ hk => hk) ((show ∀ k_, wr.heap.size ≤ k_ → (fun k_ => (w.heap.size ≤ k_) ∧ some k_ ≠ (.slice Ao55 x5_1.length co55 : Value).ownBlock ∧ some k_ ≠ (u8 : Value).ownBlock ∧ k_ ≠ g01) k_ from fun k_ hk => ⟨(Nat.le_trans (Zak (by with_reducible repeat first | exact HB.out | apply Zac | apply Zaa | apply Zab | refine Zah ?_ E01.out)) hk), Kd.fresh' (Kd.N_lt (by (with_reducible repeat (first | apply Kd.N_alloc | apply Kd.N_drewN | apply Kd.N_drew)); exact HO_5.out)) k_ hk, Kd.fresh' (Kd.R_lt (by (with_reducible repeat (first | apply Kd.R_alloc | apply Kd.R_drewN | apply Kd.R_drew)); exact HO_8.out)) k_ hk, Kd.freshB (g := g01) (o := .cells #[.int .i64 a0_0, .int .i64 a0_1, .slice (some ad102) l0_2.length c0_2] 52 (0, 0)) (by (with_reducible repeat (first | refine Zag ?_ _ | refine Zaj ?_ | refine Zaf ?_ _)); exact K01.out) k_ hk⟩) _ (Nat.le_refl _)) (Below.refl _ _) (Nat.le_refl _) (by simp) ?_; (case hd => rfl); (case hg => rfl); (case hr => first | (go_simp; done) | (go_simp; rfl)); (case hp => exact (Reps.none _ _)); intro v138 w56 ho57 hb hg_ hnew_; clear hg_ hnew_; (first | rw [← Ny137.out] at ho57 | (simp only [Int.reduceToNat] at ho57; rw [← Ny137.out] at ho57)); have n0_ := Zad.mk (Kd.N_elder' (by (with_reducible repeat (first | apply Kd.N_alloc | apply Kd.N_drewN | apply Kd.N_drew)); exact HO_5.out) (Kd.N_base ho57) hb); have n1_ := Zad.mk (Kd.R_below (by (with_reducible repeat (first | apply Kd.R_alloc | apply Kd.R_drewN | apply Kd.R_drew)); exact HO_8.out) hb); have n2_ := Zad.mk (Kd.N_lower ho57 (Zak (by with_reducible repeat first | exact HB.out | apply Zac | apply Zaa | apply Zab | refine Zah ?_ E01.out))); have n3_ := Zad.mk (Zav (g := g01) (o := .cells #[.int .i64 a0_0, .int .i64 a0_1, .slice (some ad102) l0_2.length c0_2] 52 (0, 0)) (by (with_reducible repeat (first | refine Zag ?_ _ | refine Zaj ?_ | refine Zaf ?_ _)); exact K01.out) hb); have n4_ := Zad.mk (Zal (by with_reducible repeat first | exact HB.out | apply Zac | apply Zaa | apply Zab | refine Zah ?_ E01.out) hb); clear HO_5; clear HO_8; clear K01; clear HB; have HO_5 := n0_; have HO_8 := n1_; have HO139 := n2_; have K01 := n3_; have HB := n4_; clear hb ho57; have q58 : (x10_4 : Int) ≤ ((x5_1.length : Int) : Int) := of_decide_eq_true (by first | (with_reducible assumption) | assumption); obtain ⟨i058, hi058, _, hsz58, _⟩ := info_parts Zdj; have hroom58 : x5_1.length ≤ co55 := (Kd.N_reads' HO_5.out).2.1; have hC58 : Kd.F (Kd.slice 3 (Kd.int .i64)) _ _ Ao55 x5_1.length x5_1 := (Kd.V_at (base := w.heap.size) (Kd.N_V HO_5.out)).2.2; have hcut58 := Zg7 (P := Tryz.prog) 56 31 .i64 Tryz.underlying56 hi058 Ao55 x5_1.length co55 x10_4 (of_decide_eq_true (by first | (with_reducible assumption) | assumption)) q58 hroom58; have hr58 := Kd.F_take (m := (x10_4 : Int).toNat) hC58 (by omega); have hy58 : y140.length = (x10_4 : Int).toNat := (by rw [Ny140.out, List.length_take]; omega); rw [← Ny140.out] at hr58; rw [← hy58] at hcut58; have HO144 := Zad.mk (show Kd.V (Kd.slice 3 (Kd.int .i64)) 31 _ w.heap.size _ (.slice Ao55 y140.length co55) y140 from Kd.V_mk (by omega) hr58); have HC144 := Zad.mk (show y140.length ≤ co55 from by omega); clear hr58 hC58 hroom58 hi058 hsz58; have KY58 := Zad.mk hy58; clear hy58; replace q58 := eq_true q58) | ((with_reducible refine Za9 (b := .append) (xs := #[.tmp 65, .tmp 68]) rfl ?_); at_builtin; refine Kd.N_append_rows (Kd.slice 3 (Kd.int .i64)) (w0 := w) w.heap.size rfl (.tmp 65) (.tmp 68) 56 31 (.slice none 0 0) 24 rfl Tryz.underlying56 Zdj rfl (by decide) (by omega) v138 y137 y140 _ _ _ (fun k_ => (w.heap.size ≤ k_) ∧ some k_ ≠ (u8 : Value).ownBlock ∧ k_ ≠ g01) (fun k_ => ((fun k_ => (w.heap.size ≤ k_) ∧ some k_ ≠ (u8 : Value).ownBlock ∧ k_ ≠ g01)) k_ ∧ some k_ ≠ (v138 : Value).ownBlock) rfl rfl ?aO ?aR (fun _ hk => hk) ?aF ?aB ?aS ?aL ?_; (case aR => exact (by skip; exact Kd.V_F (Kd.V_mono (ok' := (fun k_ => ((fun k_ => (w.heap.size ≤ k_) ∧ some k_ ≠ (u8 : Value).ownBlock ∧ k_ ≠ g01)) k_ ∧ some k_ ≠ (v138 : Value).ownBlock)) (HO144.out) (fun k_ hk => ⟨⟨hk.1.1, ⟨hk.1.2.1, hk.1.2.2⟩⟩, hk.2⟩)))); (case aB => exact (by with_reducible repeat first | exact HB.out | apply Zac | apply Zaa | apply Zab | refine Zah ?_ E01.out)); (case aF => exact (fun k_ hk => ⟨(Nat.le_trans (Zak (by with_reducible repeat first | exact HB.out | apply Zac | apply Zaa | apply Zab | refine Zah ?_ E01.out)) hk), Kd.fresh' (Kd.R_lt (by (with_reducible repeat (first | apply Kd.R_alloc | apply Kd.R_drewN | apply Kd.R_drew)); exact HO_8.out)) k_ hk, Kd.freshB (g := g01) (o := .cells #[.int .i64 a0_0, .int .i64 a0_1, .slice (some ad102) l0_2.length c0_2] 52 (0, 0)) (by (with_reducible repeat (first | refine Zag ?_ _ | refine Zaj ?_ | refine Zaf ?_ _)); exact K01.out) k_ hk⟩)); (case aO => exact (by (with_reducible repeat (first | apply Kd.N_alloc | apply Kd.N_drewN | apply Kd.N_drew)); exact Kd.N_mono HO139.out (fun _ hk => ⟨hk.1, ⟨hk.2.2.1, hk.2.2.2⟩⟩))); (case aS => exact (Zak (by with_reducible repeat first | exact HB.out | apply Zac | apply Zaa | apply Zab | refine Zah ?_ E01.out))); (case aL => have := LMc50.out; omega); intro v146 w59 ho hb hg hat; rw [← Ny145.out] at ho; have n0_ := Zad.mk (Kd.N_afterv (ok := (fun k_ => (w.heap.size ≤ k_) ∧ some k_ ≠ (u8 : Value).ownBlock ∧ k_ ≠ g01)) (by (with_reducible repeat (first | apply Kd.N_alloc | apply Kd.N_drewN | apply Kd.N_drew)); exact HO_5.out) hg hat); have n1_ := Zad.mk (Kd.R_over' (by (with_reducible repeat (first | apply Kd.R_alloc | apply Kd.R_drewN | apply Kd.R_drew)); exact HO_8.out) (Kd.N_typed (by (with_reducible repeat (first | apply Kd.N_alloc | apply Kd.N_drewN | apply Kd.N_drew)); exact HO139.out)) (by decide) hg); have n2_ := Zad.mk (Zbf (g := g01) (o := .cells #[.int .i64 a0_0, .int .i64 a0_1, .slice (some ad102) l0_2.length c0_2] 52 (0, 0)) (by (with_reducible repeat (first | refine Zag ?_ _ | refine Zaj ?_ | refine Zaf ?_ _)); exact K01.out) hg (Kd.N_ne HO139.out K01.out (by decide))); have n3_ := Zad.mk (Kd.V_afterv (ok := (fun k_ => (w.heap.size ≤ k_) ∧ some k_ ≠ (u8 : Value).ownBlock ∧ k_ ≠ g01)) (by (with_reducible repeat (first | apply Kd.V_alloc | apply Kd.V_drewN | apply Kd.V_drew)); exact HO144.out) hg hat); have n4_ := Zad.mk (hb); have n5_ := Zad.mk (ho); clear HO_5; clear HO_8; clear K01; clear HO144; clear HB; clear HO139; have HO_5 := n0_; have HO_8 := n1_; have K01 := n2_; have HO144 := n3_; have HB := n4_; have HO147 := n5_; clear ho hb hg hat; obtain ⟨Ao61, co61, eo61⟩ := Kd.R_slice HO_8.out; subst eo61) | ((with_reducible refine Za9 (b := .append) (xs := #[.tmp 69, .tmp 71]) rfl ?_); at_builtin; refine Kd.N_append (Kd.slice 3 (Kd.int .i64)) (w0 := w) w.heap.size rfl (.tmp 69) (.tmp 71) 56 31 (.slice none 0 0) 24 rfl Tryz.underlying56 Zdj rfl (by decide) (by omega) v146 y145 x8_3 [.slice Ao61 x8_3.length co61] (fun k_ => (w.heap.size ≤ k_) ∧ k_ ≠ g01) (fun k_ => ((fun k_ => (w.heap.size ≤ k_) ∧ k_ ≠ g01)) k_ ∧ some k_ ≠ (v146 : Value).ownBlock) rfl rfl ?aP (fun _ hk => hk) ?aF ?aO ?aB ?aS ?aL ?_; (case aP => exact (Kd.FK_slice_mk (Kd.R_reads' (Kd.R_mono (ok' := (fun k_ => ((fun k_ => (w.heap.size ≤ k_) ∧ k_ ≠ g01)) k_ ∧ some k_ ≠ (v146 : Value).ownBlock)) (Kd.R_types (Kd.R_apart' (HO_8.out) (Kd.N_typed HO147.out) (by decide)) K01.out (by decide)) (fun k_ hk => ⟨⟨hk.1.1, hk.2⟩, hk.1.2⟩))).2.1 (Kd.R_F (Kd.R_mono (ok' := (fun k_ => ((fun k_ => (w.heap.size ≤ k_) ∧ k_ ≠ g01)) k_ ∧ some k_ ≠ (v146 : Value).ownBlock)) (Kd.R_types (Kd.R_apart' (HO_8.out) (Kd.N_typed HO147.out) (by decide)) K01.out (by decide)) (fun k_ hk => ⟨⟨hk.1.1, hk.2⟩, hk.1.2⟩))))); (case aB => exact (by with_reducible repeat first | exact HB.out | apply Zac | apply Zaa | apply Zab | refine Zah ?_ E01.out)); (case aF => exact (fun k_ hk => ⟨(Nat.le_trans (Zak (by with_reducible repeat first | exact HB.out | apply Zac | apply Zaa | apply Zab | refine Zah ?_ E01.out)) hk), Kd.freshB (g := g01) (o := .cells #[.int .i64 a0_0, .int .i64 a0_1, .slice (some ad102) l0_2.length c0_2] 52 (0, 0)) (by (with_reducible repeat (first | refine Zag ?_ _ | refine Zaj ?_ | refine Zaf ?_ _)); exact K01.out) k_ hk⟩)); (case aO => exact (by (with_reducible repeat (first | apply Kd.N_alloc | apply Kd.N_drewN | apply Kd.N_drew)); exact Kd.N_mono HO147.out (fun _ hk => ⟨hk.1, hk.2.2⟩))); (case aS => exact (Zak (by with_reducible repeat first | exact HB.out | apply Zac | apply Zaa | apply Zab | refine Zah ?_ E01.out))); (case aL => have := LMc51.out; omega); intro v149 w60 ho hb hg hat; rw [← Ny148.out] at ho; have n0_ := Zad.mk (Kd.N_afterv (ok := (fun k_ => (w.heap.size ≤ k_) ∧ some k_ ≠ (.slice Ao61 x8_3.length co61 : Value).ownBlock ∧ k_ ≠ g01)) (by (with_reducible repeat (first | apply Kd.N_alloc | apply Kd.N_drewN | apply Kd.N_drew)); exact HO_5.out) hg hat); have n1_ := Zad.mk (Zbf (g := g01) (o := .cells #[.int .i64 a0_0, .int .i64 a0_1, .slice (some ad102) l0_2.length c0_2] 52 (0, 0)) (by (with_reducible repeat (first | refine Zag ?_ _ | refine Zaj ?_ | refine Zaf ?_ _)); exact K01.out) hg (Kd.N_ne HO147.out K01.out (by decide))); have n2_ := Zad.mk (Kd.V_afterv (ok := (fun k_ => (w.heap.size ≤ k_) ∧ some k_ ≠ (.slice Ao61 x8_3.length co61 : Value).ownBlock ∧ k_ ≠ g01)) (by (with_reducible repeat (first | apply Kd.V_alloc | apply Kd.V_drewN | apply Kd.V_drew)); exact HO144.out) hg hat); have n3_ := Zad.mk (hb); have n4_ := Zad.mk (ho); clear HO_5; clear K01; clear HO144; clear HB; clear HO147; clear HO_8; have HO_5 := n0_; have K01 := n1_; have HO144 := n2_; have HB := n3_; have HO150 := n4_; clear ho hb hg hat; have q62 : (x10_4 : Int) ≤ ((x5_1.length : Int) : Int) := of_decide_eq_true (by first | (with_reducible assumption) | assumption); obtain ⟨i062, hi062, _, hsz62, _⟩ := info_parts Zdj; have hroom62 : x5_1.length ≤ co55 := (Kd.N_reads' HO_5.out).2.1; have hC62 : Kd.F (Kd.slice 3 (Kd.int .i64)) _ _ Ao55 x5_1.length x5_1 := (Kd.V_at (base := w.heap.size) (Kd.N_V HO_5.out)).2.2; have q062 : (0 : Int) ≤ (x10_4 : Int) := of_decide_eq_true (by first | (with_reducible assumption) | assumption); have hcut62 := Zgh (P := Tryz.prog) 56 31 .i64 Tryz.underlying56 hi062 1 hsz62 Ao55 x5_1.length co55 x10_4 q062 q62; have hr62 := Kd.F_cut (m := (x10_4 : Int).toNat) (c := co55) hC62 (by omega) hroom62; obtain ⟨A62, hA62⟩ : ∃ A1, A1 = (if co55 = (x10_4 : Int).toNat then Ao55 else (Ao55 : Option Addr).map (·.add ((x10_4 : Int).toNat * 1))) := ⟨_, rfl⟩; obtain ⟨c62, hc62⟩ : ∃ c1, c1 = co55 - (x10_4 : Int).toNat := ⟨_, rfl⟩; have hy62 : y151.length = x5_1.length - (x10_4 : Int).toNat := (by rw [Ny151.out, List.length_drop] <;> omega); rw [show (x5_1).drop (x10_4 : Int).toNat = y151 from Ny151.out.symm] at hr62; replace hr62 : Kd.F (Kd.slice 3 (Kd.int .i64)) _ _ A62 y151.length y151 := (by rw [hA62]; exact hr62); rw [← hy62, ← hA62, ← hc62] at hcut62; have HO155 := Zad.mk (show Kd.V (Kd.slice 3 (Kd.int .i64)) 31 _ w.heap.size _ (.slice A62 y151.length c62) y151 from Kd.V_mk (by rw [hy62, hc62]; exact Nat.sub_le_sub_right hroom62 _) hr62); have HC155 := Zad.mk (show y151.length ≤ c62 from by rw [hy62, hc62]; exact Nat.sub_le_sub_right hroom62 _); clear hr62 hC62 hroom62 hi062 hsz62 hc62; have KY62 := Zad.mk hy62; have KA62 := Zad.mk hA62; clear hy62 hA62; replace q62 := eq_true q62) | ((with_reducible refine Za9 (b := .append) (xs := #[.tmp 73, .tmp 76]) rfl ?_); at_builtin; refine Kd.N_append_rows (Kd.slice 3 (Kd.int .i64)) (w0 := w) w.heap.size rfl (.tmp 73) (.tmp 76) 56 31 (.slice none 0 0) 24 rfl Tryz.underlying56 Zdj rfl (by decide) (by omega) v149 y148 y151 _ _ _ (fun k_ => (w.heap.size ≤ k_) ∧ k_ ≠ g01) (fun k_ => ((fun k_ => (w.heap.size ≤ k_) ∧ k_ ≠ g01)) k_ ∧ some k_ ≠ (v149 : Value).ownBlock) rfl rfl ?aO ?aR (fun _ hk => hk) ?aF ?aB ?aS ?aL ?_; (case aR => exact (by skip; exact Kd.V_F (Kd.V_mono (ok' := (fun k_ => ((fun k_ => (w.heap.size ≤ k_) ∧ k_ ≠ g01)) k_ ∧ some k_ ≠ (v149 : Value).ownBlock)) (HO155.out) (fun k_ hk => ⟨⟨hk.1.1, hk.1.2.2⟩, hk.2⟩)))); (case aB => exact (by with_reducible repeat first | exact HB.out | apply Zac | apply Zaa | apply Zab | refine Zah ?_ E01.out)); (case aF => exact (fun k_ hk => ⟨(Nat.le_trans (Zak (by with_reducible repeat first | exact HB.out | apply Zac | apply Zaa | apply Zab | refine Zah ?_ E01.out)) hk), Kd.freshB (g := g01) (o := .cells #[.int .i64 a0_0, .int .i64 a0_1, .slice (some ad102) l0_2.length c0_2] 52 (0, 0)) (by (with_reducible repeat (first | refine Zag ?_ _ | refine Zaj ?_ | refine Zaf ?_ _)); exact K01.out) k_ hk⟩)); (case aO => exact (by (with_reducible repeat (first | apply Kd.N_alloc | apply Kd.N_drewN | apply Kd.N_drew)); exact HO150.out)); (case aS => exact (Zak (by with_reducible repeat first | exact HB.out | apply Zac | apply Zaa | apply Zab | refine Zah ?_ E01.out))); (case aL => have := LMc54.out; omega); intro v157 w63 ho hb hg hat; rw [← Ny156.out] at ho; have n0_ := Zad.mk (Kd.N_afterv (ok := (fun k_ => (w.heap.size ≤ k_) ∧ k_ ≠ g01)) (by (with_reducible repeat (first | apply Kd.N_alloc | apply Kd.N_drewN | apply Kd.N_drew)); exact Kd.N_mono HO_5.out (fun _ hk => ⟨⟨hk.1.1, hk.1.2.2⟩, hk.2⟩)) hg hat); have n1_ := Zad.mk (Zbf (g := g01) (o := .cells #[.int .i64 a0_0, .int .i64 a0_1, .slice (some ad102) l0_2.length c0_2] 52 (0, 0)) (by (with_reducible repeat (first | refine Zag ?_ _ | refine Zaj ?_ | refine Zaf ?_ _)); exact K01.out) hg (Kd.N_ne HO150.out K01.out (by decide))); have n2_ := Zad.mk (Kd.V_afterv (ok := (fun k_ => (w.heap.size ≤ k_) ∧ k_ ≠ g01)) (by (with_reducible repeat (first | apply Kd.V_alloc | apply Kd.V_drewN | apply Kd.V_drew)); exact Kd.V_mono HO144.out (fun _ hk => ⟨⟨hk.1.1, hk.1.2.2⟩, hk.2⟩)) hg hat); have n3_ := Zad.mk (Kd.V_afterv (ok := (fun k_ => (w.heap.size ≤ k_) ∧ k_ ≠ g01)) (by (with_reducible repeat (first | apply Kd.V_alloc | apply Kd.V_drewN | apply Kd.V_drew)); exact Kd.V_mono HO155.out (fun _ hk => ⟨⟨hk.1.1, hk.1.2.2⟩, hk.2⟩)) hg hat); have n4_ := Zad.mk (hb); have n5_ := Zad.mk (ho); clear HO_5; clear K01; clear HO144; clear HO155; clear HB; clear HO150; have HO_5 := n0_; have K01 := n1_; have HO144 := n2_; have HO155 := n3_; have HB := n4_; have HO158 := n5_; clear ho hb hg hat))
                    go_roundg k4
                    case measure => have := HK1.out; have := HJ7.out; have := HK3.out; have := HK4.out; omega
                    case rel => exact ⟨(y156), (wrap64 (x15_1 + 1)), (by first | rfl | (simp; done) | (simp [*]; done)), H', ⟨by have := HK1.out; have := HJ7.out; have := HK3.out; have := HK4.out; omega⟩, ⟨by (with_reducible repeat (first | apply Kd.N_alloc | apply Kd.N_drewN | apply Kd.N_drew)); exact HO158.out⟩, ⟨by (with_reducible repeat (first | refine Zag ?_ _ | refine Zaj ?_ | refine Zaf ?_ _)); exact K01.out⟩, ⟨by with_reducible repeat first | exact HB.out | apply Zac | apply Zaa | apply Zab | refine Zah ?_ E01.out⟩⟩
                   ·rw [if_neg c54] at H
                    exact absurd H (by simp)
                  ·rw [if_neg c51] at H
                   exact absurd H (by simp)
                 ·rw [if_neg c50] at H
                  exact absurd H (by simp)
                ·rw [if_neg c49] at H
                 exact absurd H (by simp)
               ·rw [if_neg c48] at H
                exact absurd H (by simp)
     ·rw [if_neg c7] at H
      exact absurd H (by simp)
    ·rw [if_neg c6] at H
     exact absurd H (by simp)
   ·rw [if_neg c5] at H
    have c5b0 : decide (x15_1 < (l0_2.length : Int)) = false := decide_eq_false c5
    clear c5
    obtain rfl := Option.some.inj H
    go_wp2
    go_ret
    exact ⟨_, by first | rfl | (simp [Zao, Zan] <;> rfl) | (simp [*, Zao, Zan] <;> rfl), by (with_reducible repeat (first | apply Kd.N_alloc | apply Kd.N_drewN | apply Kd.N_drew)); exact Kd.N_mono HO_5.out (fun _ hk => hk.1), by repeat (first | (with_reducible first | exact HB.out | apply Zac | apply Zaa | apply Zab | refine Zah ?_ E01.out) | exact HB.out)⟩
mutual
def Za4.l0 : Nat → List Int → List (List Int) → Int → Int → Int → Int → List Int → Option (List Int)
 | 0, _, _, _, _, _, _, _ => none
 | k + 1, x5, x13, x14, x15, X020, X021, X022 => if x15 < x14 then (if 0 ≤ x15 then (if x15 < (x13.length : Int) then (Za4.l1 k x5 0 x13 x14 x15 (rd_L3 x13 x15) ((rd_L3 x13 x15).length : Int) 0 X020 X021 X022) else (none)) else (none)) else (some x5)
def Za4.l1 : Nat → List Int → Int → List (List Int) → Int → Int → List Int → Int → Int → Int → Int → List Int → Option (List Int)
 | 0, _, _, _, _, _, _, _, _, _, _, _ => none
 | k + 1, x5, x8, x13, x14, x15, x19, x20, x21, X020, X021, X022 => if x21 < x20 then (if 0 ≤ x21 then (if x21 < (x19.length : Int) then (if 0 ≤ (rd x19 x21) then (if (rd x19 x21) < (X022.length : Int) then ((Zcq.f (rd X022 (rd x19 x21))).bind fun t108 => (if t108 = true then (if x5.length < 17592186044416 then (Za4.l1 k (x5 ++ [wrap64 (x21 - x8)]) (wrap64 (x8 + 1)) x13 x14 x15 x19 x20 (wrap64 (x21 + 1)) X020 X021 X022) else (none)) else (Za4.l1 k x5 x8 x13 x14 x15 x19 x20 (wrap64 (x21 + 1)) X020 X021 X022))) else (none)) else (none)) else (none)) else (none)) else (Za4.l0 k x5 x13 x14 (wrap64 (x15 + 1)) X020 X021 X022)
end
def Za4.f (k : Nat) (a0_0 : Int) (a0_1 : Int) (l0_2 : List Int) (a1 : Int) : Option (List Int) := (Zam.f k a0_0 a0_1 l0_2 a1).bind fun t102 => (Za4.l0 k ([] : List Int) t102 (t102.length : Int) 0 a0_0 a0_1 l0_2)
set_option maxHeartbeats 8000000 in
set_option maxRecDepth 100000 in
theorem Za4.calls (k : Nat) (a0_0 : Int) (a0_1 : Int) (A0_2 : Option Addr) (c0_2 : Nat) (l0_2 : List Int) (a1 : Int) (r : List Int) (w : World) (hr0_2 : Kd.C (Kd.int .u8) w A0_2 l0_2.length l0_2) (hc0_2 : l0_2.length ≤ c0_2) (h : Za4.f k a0_0 a0_1 l0_2 a1 = some r) :
  Calls Tryz.prog 77 #[.agg #[.int .i64 a0_0, .int .i64 a0_1, .slice A0_2 l0_2.length c0_2], .int .i64 a1] w fun e w' => ∃ v0_ : Value, e = .returned (v0_) ∧ Kd.R (Kd.int .i64) 3 w' w.heap.size (fun _ => True) v0_ r ∧ Below w.heap.size w w' := by
 have hu52 := Tryz.underlying52
 have HR0_2 := Zad.mk hr0_2
 have HC0_2 := Zad.mk hc0_2
 clear hr0_2 hc0_2
 have HB := Zad.mk (Below.refl w.heap.size w)
 have H : ((Zam.f k a0_0 a0_1 l0_2 a1).bind fun t102 => (Za4.l0 k ([] : List Int) t102 (t102.length : Int) 0 a0_0 a0_1 l0_2)) = some r := h
 clear h
 replace H := Option.bind_eq_some_iff.mp H
 obtain ⟨t102, A30, H⟩ := H
 replace H : (Za4.l0 k ([] : List Int) t102 (t102.length : Int) 0 a0_0 a0_1 l0_2) = some r := H
 have A3 := Zad.mk A30
 clear A30
 have H' := Zad.mk H
 clear H
 go_enter Tryz.func77, Tryz.ntmps77
 go_wp2_with (first | ((with_reducible refine Zay (N := 2) rfl ?_); refine Zaz ?hg (N := 2) ?hd (cs := #[.int .i64 a0_0, .int .i64 a0_1, .slice A0_2 l0_2.length c0_2]) (t := 52) ?hr ?_; (case hd => rfl); (case hg => rfl); (case hr => first | (go_simp; done) | (go_simp; rfl)); intro g01 hg w4 hbox hb; have n0_ := Zad.mk (Zal (by with_reducible repeat first | exact HB.out | apply Zac | apply Zaa | apply Zab) hb); have n1_ := Zad.mk (hbox); have n2_ := Zad.mk ((by rw [hg]; exact (Zak (by with_reducible repeat first | exact HB.out | apply Zac | apply Zaa | apply Zab)) : w.heap.size ≤ g01)); have n3_ := n2_; clear HB; have HB := n0_; have K01 := n1_; have W01 := n2_; have E01 := n3_; clear hb hbox hg; have hcz5_0 : w4.cell? ⟨g01, 0, none⟩ = some (.int .i64 a0_0) := (Zai K01.out 0).trans rfl; have hcz5_1 : w4.cell? ⟨g01, 1, none⟩ = some (.int .i64 a0_1) := (Zai K01.out 1).trans rfl; have hcz5_2 : w4.cell? ⟨g01, 2, none⟩ = some (.slice A0_2 l0_2.length c0_2) := (Zai K01.out 2).trans rfl; have hfz5_0 := Zae K01.out 0; have hfz5_1 := Zae K01.out 1; have hfz5_2 := Zae K01.out 2) | ((with_reducible refine Zau (f := 103) rfl ?_); refine Zbr (some 13) rfl rfl Tryz.func103 (by kernel_rfl) rfl #[.agg #[.int .i64 a0_0, .int .i64 a0_1, .slice A0_2 l0_2.length c0_2], .int .i64 a1] rfl (by (try simp only [List.map_toArray, List.map_cons, List.map_nil]); first | done | rfl | (simp only [List.length_drop, List.length_take]; rfl)) ?_; (with_reducible refine (Zam.calls k a0_0 a0_1 _ _ l0_2 a1 t102 _ ?side1 ?side2 A3.out).mono ?_); (case side1 => repeat (first | exact (Kd.C_below HR0_2.out HB.out) | (with_reducible refine Kd.C_alloc ?_ _) | (with_reducible refine Kd.C_drewN ?_ _) | (with_reducible refine Kd.C_drew ?_))); (case side2 => exact HC0_2.out); rintro e w6 ⟨v103, rfl, ho0, hb⟩; refine ⟨_, rfl, ?_⟩; have n0_ := Zad.mk (Kd.N_lower (Kd.N_mono (ok' := fun k_ => k_ ≠ g01) ho0 (fun k_ hk_ => (Kd.freshB (g := g01) (o := .cells #[.int .i64 a0_0, .int .i64 a0_1, .slice A0_2 l0_2.length c0_2] 52 (0, 0)) (by (with_reducible repeat (first | refine Zag ?_ _ | refine Zaj ?_ | refine Zaf ?_ _)); exact K01.out) k_ hk_))) (Zak (by with_reducible repeat first | exact HB.out | apply Zac | apply Zaa | apply Zab | refine Zah ?_ E01.out))); have n1_ := Zad.mk (Zav (g := g01) (o := .cells #[.int .i64 a0_0, .int .i64 a0_1, .slice A0_2 l0_2.length c0_2] 52 (0, 0)) (by (with_reducible repeat (first | refine Zag ?_ _ | refine Zaj ?_ | refine Zaf ?_ _)); exact K01.out) hb); have n2_ := Zad.mk (Zal (by with_reducible repeat first | exact HB.out | apply Zac | apply Zaa | apply Zab | refine Zah ?_ E01.out) hb); clear K01; clear HB; have HO104 := n0_; have K01 := n1_; have HB := n2_; obtain ⟨Ao7, co7, eo7⟩ := Kd.N_slice HO104.out; subst eo7))
 go_loopg [5, 15] k (fun kq v5 v15 w' => ∃ (x5_1 : List Int) (x15_1 : Int), v15 = .int .i64 x15_1 ∧ Zad (Za4.l0 kq x5_1 t102 (t102.length : Int) x15_1 a0_0 a0_1 l0_2 = some r) ∧ Zad (kq ≤ k) ∧ Zad (Kd.R (Kd.int .i64) 3 w' w.heap.size (fun _ => True) v5 x5_1) ∧ Zad (Kd.N (Kd.slice 3 (Kd.int .i64)) 31 w' w.heap.size (fun k_ => some k_ ≠ (v5 : Value).ownBlock ∧ k_ ≠ g01) (.slice Ao7 t102.length co7) t102) ∧ Zad (w'.heap[g01]? = some (.cells #[.int .i64 a0_0, .int .i64 a0_1, (.slice A0_2 l0_2.length c0_2)] 52 (0, 0))) ∧ Zad (Below w.heap.size w w'))
 case atStart => exact ⟨(([] : List Int)), (0), (by first | rfl | (simp; done) | (simp [*]; done)), H', ⟨Nat.le_refl _⟩, ⟨by first | exact Kd.R_nil _ _ _ _ _ | exact Kd.N_nil _ _ _ _ _ | exact Kd.V_nil _ _ _ _ _ | exact Kd.Q_nil _ _ _ _ _ | exact Kd.S_nil _ _ _ _ _⟩, ⟨by (with_reducible repeat (first | apply Kd.N_alloc | apply Kd.N_drewN | apply Kd.N_drew)); exact Kd.N_mono HO104.out (fun _ hk => ⟨(by simp [Value.ownBlock]), hk⟩)⟩, ⟨by (with_reducible repeat (first | refine Zag ?_ _ | refine Zaj ?_ | refine Zaf ?_ _)); exact K01.out⟩, ⟨by with_reducible repeat first | exact HB.out | apply Zac | apply Zaa | apply Zab | refine Zah ?_ E01.out⟩⟩
 case round =>
  clear H'
  obtain ⟨x5_1, x15_1, rfl, HA, HK1, HO_5, HO_13, K01, HB⟩ := hrel
  cases gk with
  | zero => exact absurd HA.out (by simp [Za4.l0])
  | succ k1 =>
   have H := HA.out
   clear HA
   simp only [Za4.l0] at H
   by_cases c8 : x15_1 < (t102.length : Int)
   ·rw [if_pos c8] at H
    have c8b0 : decide (x15_1 < (t102.length : Int)) = true := decide_eq_true c8
    clear c8
    by_cases c9 : 0 ≤ x15_1
    ·rw [if_pos c9] at H
     have c9b0 : decide (0 ≤ x15_1) = true := decide_eq_true c9
     clear c9
     by_cases c10 : x15_1 < (t102.length : Int)
     ·rw [if_pos c10] at H
      have c10b0 : decide (x15_1 < (t102.length : Int)) = true := decide_eq_true c10
      clear c10
      have H' := Zad.mk H
      clear H
      have p105 : 0 ≤ (x15_1 : Int) := of_decide_eq_true (by first | (with_reducible assumption) | assumption)
      have q105 : x15_1 < (t102.length : Int) := of_decide_eq_true (by first | (with_reducible assumption) | assumption)
      obtain ⟨ad105, A105_0, c105_0, e105, hx105_0, hl105_0, hi105_0⟩ := at_L3 (Kd.N_reads' HO_13.out).2.2 x15_1 p105 q105
      cases e105
      obtain ⟨ce105, hce105, hMe105, hcc105⟩ := Kd.N_get HO_13.out [] x15_1 p105 (by first | exact q105 | exact of_decide_eq_true (by first | (with_reducible assumption) | assumption) | (have e_ := (Kd.N_reads' HO_13.out).1; omega))
      obtain ⟨ua105_0, uc105_0, rfl, ul105_0, ge105_0⟩ := Kd.FK_slice_open hMe105
      have hv105_0 := hcc105 0 _ rfl
      rw [Nat.add_zero, show ((Kd.slice 3 (Kd.int .i64))).sz = 1 from rfl, Nat.mul_one] at hv105_0
      replace hv105_0 := Option.some.inj (hv105_0.symm.trans hx105_0)
      injection hv105_0 with hva_ hvn_ hvc_
      rw [hva_] at ge105_0
      rw [hvc_] at ul105_0
      have HL105_0 := Zad.mk (show Kd.V (Kd.int .i64) 3 _ w.heap.size _ _ (rd_L3 t102 x15_1) from Kd.V_mk ul105_0 ge105_0)
      clear hva_ hvn_ hvc_ ge105_0 ul105_0
      clear hcc105 hce105
      have HR105_0 := Zad.mk hi105_0
      have HC105_0 := Zad.mk hl105_0
      clear hi105_0 hl105_0
      replace p105 := eq_true p105
      replace q105 := eq_true q105
      go_wp2
      go_loopg [5, 8, 21] k1 (fun kq v5 v8 v21 w' => ∃ (x5_2 : List Int) (x8_2 : Int) (x21_2 : Int), v8 = .int .i64 x8_2 ∧ v21 = .int .i64 x21_2 ∧ Zad (Za4.l1 kq x5_2 x8_2 t102 (t102.length : Int) x15_1 (rd_L3 t102 x15_1) ((rd_L3 t102 x15_1).length : Int) x21_2 a0_0 a0_1 l0_2 = some r) ∧ Zad (kq ≤ k1) ∧ Zad (Kd.R (Kd.int .i64) 3 w' w.heap.size (fun _ => True) v5 x5_2) ∧ Zad (Kd.N (Kd.slice 3 (Kd.int .i64)) 31 w' w.heap.size (fun k_ => some k_ ≠ (v5 : Value).ownBlock ∧ k_ ≠ g01) (.slice (some ad105) t102.length co7) t102) ∧ Zad (Kd.V (Kd.int .i64) 3 w' w.heap.size (fun k_ => some k_ ≠ (v5 : Value).ownBlock ∧ k_ ≠ g01) (.slice A105_0 (rd_L3 t102 x15_1).length c105_0) (rd_L3 t102 x15_1)) ∧ Zad (w'.heap[g01]? = some (.cells #[.int .i64 a0_0, .int .i64 a0_1, (.slice A0_2 l0_2.length c0_2)] 52 (0, 0))) ∧ Zad (Below w.heap.size w w'))
      case atStart => exact ⟨(x5_1), (0), (0), (by first | rfl | (simp; done) | (simp [*]; done)), (by first | rfl | (simp; done) | (simp [*]; done)), H', ⟨Nat.le_refl _⟩, ⟨by (with_reducible repeat (first | apply Kd.R_alloc | apply Kd.R_drewN | apply Kd.R_drew)); exact HO_5.out⟩, ⟨by (with_reducible repeat (first | apply Kd.N_alloc | apply Kd.N_drewN | apply Kd.N_drew)); exact HO_13.out⟩, ⟨Kd.V_mono HL105_0.out (fun _ hk => by first | exact hk | exact hk.1 | exact ⟨hk.1, hk.2⟩ | exact ⟨hk.1.1, hk.1.2⟩ | (simp_all; done))⟩, ⟨by (with_reducible repeat (first | refine Zag ?_ _ | refine Zaj ?_ | refine Zaf ?_ _)); exact K01.out⟩, ⟨by with_reducible repeat first | exact HB.out | apply Zac | apply Zaa | apply Zab | refine Zah ?_ E01.out⟩⟩
      case round =>
       clear H'
       obtain ⟨x5_2, x8_2, x21_2, rfl, rfl, HA, HK2, HO_5, HO_13, HLN, K01, HB⟩ := hrel
       cases gk with
       | zero => exact absurd HA.out (by simp [Za4.l1])
       | succ k2 =>
        have H := HA.out
        clear HA
        simp only [Za4.l1] at H
        by_cases c11 : x21_2 < ((rd_L3 t102 x15_1).length : Int)
        ·rw [if_pos c11] at H
         have c11b0 : decide (x21_2 < ((rd_L3 t102 x15_1).length : Int)) = true := decide_eq_true c11
         clear c11
         by_cases c12 : 0 ≤ x21_2
         ·rw [if_pos c12] at H
          have c12b0 : decide (0 ≤ x21_2) = true := decide_eq_true c12
          clear c12
          by_cases c13 : x21_2 < ((rd_L3 t102 x15_1).length : Int)
          ·rw [if_pos c13] at H
           have c13b0 : decide (x21_2 < ((rd_L3 t102 x15_1).length : Int)) = true := decide_eq_true c13
           clear c13
           by_cases c14 : 0 ≤ (rd (rd_L3 t102 x15_1) x21_2)
           ·rw [if_pos c14] at H
            have c14b0 : decide (0 ≤ (rd (rd_L3 t102 x15_1) x21_2)) = true := decide_eq_true c14
            clear c14
            by_cases c15 : (rd (rd_L3 t102 x15_1) x21_2) < (l0_2.length : Int)
            ·rw [if_pos c15] at H
             have c15b0 : decide ((rd (rd_L3 t102 x15_1) x21_2) < (l0_2.length : Int)) = true := decide_eq_true c15
             clear c15
             replace H := Option.bind_eq_some_iff.mp H
             obtain ⟨t108, A160, H⟩ := H
             replace H : (if t108 = true then (if x5_2.length < 17592186044416 then (Za4.l1 k2 (x5_2 ++ [wrap64 (x21_2 - x8_2)]) (wrap64 (x8_2 + 1)) t102 (t102.length : Int) x15_1 (rd_L3 t102 x15_1) ((rd_L3 t102 x15_1).length : Int) (wrap64 (x21_2 + 1)) a0_0 a0_1 l0_2) else (none)) else (Za4.l1 k2 x5_2 x8_2 t102 (t102.length : Int) x15_1 (rd_L3 t102 x15_1) ((rd_L3 t102 x15_1).length : Int) (wrap64 (x21_2 + 1)) a0_0 a0_1 l0_2)) = some r := H
             have A16 := Zad.mk A160
             clear A160
             by_cases c17 : t108 = true
             ·subst c17
              have H1 : (if x5_2.length < 17592186044416 then (Za4.l1 k2 (x5_2 ++ [wrap64 (x21_2 - x8_2)]) (wrap64 (x8_2 + 1)) t102 (t102.length : Int) x15_1 (rd_L3 t102 x15_1) ((rd_L3 t102 x15_1).length : Int) (wrap64 (x21_2 + 1)) a0_0 a0_1 l0_2) else (none)) = some r := by rw [if_pos rfl] at H; exact H
              clear H
              have H := H1
              clear H1
              by_cases c18 : x5_2.length < 17592186044416
              ·rw [if_pos c18] at H
               have LMc18 := Zad.mk c18
               clear c18
               obtain ⟨y109, hy109⟩ : ∃ y_ : List Int, y_ = (x5_2 ++ [wrap64 (x21_2 - x8_2)]) := ⟨_, rfl⟩
               replace H : (Za4.l1 k2 y109 (wrap64 (x8_2 + 1)) t102 (t102.length : Int) x15_1 (rd_L3 t102 x15_1) ((rd_L3 t102 x15_1).length : Int) (wrap64 (x21_2 + 1)) a0_0 a0_1 l0_2) = some r := by first | (rw [hy109]; with_reducible exact H) | (have H2_ := (Option.bind_some _ _).symm.trans H; rw [hy109]; with_reducible exact H2_) | (have H2_ := (Option.bind_some _ _).symm.trans H; with_reducible exact H2_) | with_reducible exact H | (rw [hy109]; exact H) | exact H
               have Ny109 := Zad.mk hy109
               clear hy109
               have H' := Zad.mk H
               clear H
               have p106 : 0 ≤ (x21_2 : Int) := of_decide_eq_true (by first | (with_reducible assumption) | assumption)
               have q106 : x21_2 < ((rd_L3 t102 x15_1).length : Int) := of_decide_eq_true (by first | (with_reducible assumption) | assumption)
               obtain ⟨ad106, e106, hx106_0⟩ := Kd.at_int (Kd.V_reads' HLN.out).2.2 x21_2 p106 q106
               cases e106
               (first | (replace hx106_0 := (HB.out.cell (World.block_lt_of_cell? w _ hx106_0)).trans hx106_0) | skip)
               replace p106 := eq_true p106
               replace q106 := eq_true q106
               have hcz19_0 : wr.cell? ⟨g01, 0, none⟩ = some (.int .i64 a0_0) := (Zai K01.out 0).trans rfl
               have hcz19_1 : wr.cell? ⟨g01, 1, none⟩ = some (.int .i64 a0_1) := (Zai K01.out 1).trans rfl
               have hcz19_2 : wr.cell? ⟨g01, 2, none⟩ = some (.slice A0_2 l0_2.length c0_2) := (Zai K01.out 2).trans rfl
               have hfz19_0 := Zae K01.out 0
               have hfz19_1 := Zae K01.out 1
               have hfz19_2 := Zae K01.out 2
               have p107 : 0 ≤ ((rd (rd_L3 t102 x15_1) x21_2) : Int) := of_decide_eq_true (by first | (with_reducible assumption) | assumption)
               have q107 : (rd (rd_L3 t102 x15_1) x21_2) < (l0_2.length : Int) := of_decide_eq_true (by first | (with_reducible assumption) | assumption)
               obtain ⟨ad107, e107, hx107_0⟩ := Kd.at_int HR0_2.out (rd (rd_L3 t102 x15_1) x21_2) p107 q107
               cases e107
               (first | (replace hx107_0 := (HB.out.cell (World.block_lt_of_cell? w _ hx107_0)).trans hx107_0) | skip)
               replace p107 := eq_true p107
               replace q107 := eq_true q107
               go_wp2_with (first | ((with_reducible refine Zau (f := 91) rfl ?_); refine Zbr (some 31) rfl rfl Tryz.func91 (by kernel_rfl) rfl #[.int .u8 (rd l0_2 (rd (rd_L3 t102 x15_1) x21_2))] rfl (by (try simp only [List.map_toArray, List.map_cons, List.map_nil]); first | done | rfl | (simp only [List.length_drop, List.length_take]; rfl)) ?_; (with_reducible refine (Zcq.calls (rd l0_2 (rd (rd_L3 t102 x15_1) x21_2)) true _ A16.out).mono ?_); rintro e w' ⟨rfl, ⟨nd, rfl⟩⟩; refine ⟨_, rfl, ?_⟩) | ((with_reducible refine Za9 (b := .append) (xs := #[.tmp 32, .tmp 36]) rfl ?_); at_builtin; refine Kd.R_append (Kd.int .i64) (w0 := w) w.heap.size rfl (.tmp 32) (.tmp 36) 31 3 (.int .i64 0) 8 rfl Tryz.underlying31 info3 rfl (by decide) (by omega) u5 x5_2 (wrap64 (x21_2 - x8_2)) [.int .i64 (wrap64 (x21_2 - x8_2))] (fun _ => True) (fun _ => False) rfl rfl ?aP (fun _ hk => hk.elim) ?aF ?aO ?aB ?aS ?aL ?_; (case aP => exact rfl); (case aB => exact (by with_reducible repeat first | exact HB.out | apply Zac | apply Zaa | apply Zab | refine Zah ?_ E01.out)); (case aF => exact (fun _ _ => trivial)); (case aO => exact (by (with_reducible repeat (first | apply Kd.R_alloc | apply Kd.R_drewN | apply Kd.R_drew)); exact HO_5.out)); (case aS => exact (Zak (by with_reducible repeat first | exact HB.out | apply Zac | apply Zaa | apply Zab | refine Zah ?_ E01.out))); (case aL => have := LMc18.out; omega); intro v110 w20 ho hb hg hat; rw [← Ny109.out] at ho; have n0_ := Zad.mk (Kd.N_afterv (ok := (fun k_ => k_ ≠ g01)) (by (with_reducible repeat (first | apply Kd.N_alloc | apply Kd.N_drewN | apply Kd.N_drew)); exact Kd.N_mono HO_13.out (fun _ hk => ⟨hk.2, hk.1⟩)) hg hat); have nv_ := Zad.mk (Kd.V_afterv (ok := (fun k_ => k_ ≠ g01)) (by (with_reducible repeat (first | apply Kd.V_alloc | apply Kd.V_drewN | apply Kd.V_drew)); exact Kd.V_mono HLN.out (fun _ hk => ⟨hk.2, hk.1⟩)) hg hat); have n1_ := Zad.mk (Zbf (g := g01) (o := .cells #[.int .i64 a0_0, .int .i64 a0_1, .slice (some ad107) l0_2.length c0_2] 52 (0, 0)) (by (with_reducible repeat (first | refine Zag ?_ _ | refine Zaj ?_ | refine Zaf ?_ _)); exact K01.out) hg (Kd.R_ne HO_5.out K01.out (by decide))); have n2_ := Zad.mk (hb); have n3_ := Zad.mk (ho); clear HO_13; clear K01; clear HB; clear HO_5; clear HLN; have HLN := nv_; clear nv_; have HO_13 := n0_; have K01 := n1_; have HB := n2_; have HO111 := n3_; clear ho hb hg hat))
               go_roundg k2
               case measure => have := HK1.out; have := HK2.out; omega
               case rel => exact ⟨(y109), (wrap64 (x8_2 + 1)), (wrap64 (x21_2 + 1)), (by first | rfl | (simp; done) | (simp [*]; done)), (by first | rfl | (simp; done) | (simp [*]; done)), H', ⟨by have := HK1.out; have := HK2.out; omega⟩, ⟨by (with_reducible repeat (first | apply Kd.R_alloc | apply Kd.R_drewN | apply Kd.R_drew)); exact HO111.out⟩, ⟨by (with_reducible repeat (first | apply Kd.N_alloc | apply Kd.N_drewN | apply Kd.N_drew)); exact Kd.N_mono HO_13.out (fun _ hk => ⟨hk.2, hk.1⟩)⟩, ⟨by (with_reducible repeat (first | apply Kd.V_alloc | apply Kd.V_drewN | apply Kd.V_drew)); exact Kd.V_mono HLN.out (fun _ hk => ⟨hk.2, hk.1⟩)⟩, ⟨by (with_reducible repeat (first | refine Zag ?_ _ | refine Zaj ?_ | refine Zaf ?_ _)); exact K01.out⟩, ⟨by with_reducible repeat first | exact HB.out | apply Zac | apply Zaa | apply Zab | refine Zah ?_ E01.out⟩⟩
              ·rw [if_neg c18] at H
               exact absurd H (by simp)
             ·replace c17 := Bool.eq_false_iff.mpr c17
              subst c17
              have H1 : (Za4.l1 k2 x5_2 x8_2 t102 (t102.length : Int) x15_1 (rd_L3 t102 x15_1) ((rd_L3 t102 x15_1).length : Int) (wrap64 (x21_2 + 1)) a0_0 a0_1 l0_2) = some r := by rw [if_neg (show ¬ (false = true) by decide)] at H; exact H
              clear H
              have H := H1
              clear H1
              have H' := Zad.mk H
              clear H
              have p106 : 0 ≤ (x21_2 : Int) := of_decide_eq_true (by first | (with_reducible assumption) | assumption)
              have q106 : x21_2 < ((rd_L3 t102 x15_1).length : Int) := of_decide_eq_true (by first | (with_reducible assumption) | assumption)
              obtain ⟨ad106, e106, hx106_0⟩ := Kd.at_int (Kd.V_reads' HLN.out).2.2 x21_2 p106 q106
              cases e106
              (first | (replace hx106_0 := (HB.out.cell (World.block_lt_of_cell? w _ hx106_0)).trans hx106_0) | skip)
              replace p106 := eq_true p106
              replace q106 := eq_true q106
              have hcz21_0 : wr.cell? ⟨g01, 0, none⟩ = some (.int .i64 a0_0) := (Zai K01.out 0).trans rfl
              have hcz21_1 : wr.cell? ⟨g01, 1, none⟩ = some (.int .i64 a0_1) := (Zai K01.out 1).trans rfl
              have hcz21_2 : wr.cell? ⟨g01, 2, none⟩ = some (.slice A0_2 l0_2.length c0_2) := (Zai K01.out 2).trans rfl
              have hfz21_0 := Zae K01.out 0
              have hfz21_1 := Zae K01.out 1
              have hfz21_2 := Zae K01.out 2
              have p107 : 0 ≤ ((rd (rd_L3 t102 x15_1) x21_2) : Int) := of_decide_eq_true (by first | (with_reducible assumption) | assumption)
              have q107 : (rd (rd_L3 t102 x15_1) x21_2) < (l0_2.length : Int) := of_decide_eq_true (by first | (with_reducible assumption) | assumption)
              obtain ⟨ad107, e107, hx107_0⟩ := Kd.at_int HR0_2.out (rd (rd_L3 t102 x15_1) x21_2) p107 q107
              cases e107
              (first | (replace hx107_0 := (HB.out.cell (World.block_lt_of_cell? w _ hx107_0)).trans hx107_0) | skip)
              replace p107 := eq_true p107
              replace q107 := eq_true q107
              go_wp2_with (first | ((with_reducible refine Zau (f := 91) rfl ?_); refine Zbr (some 31) rfl rfl Tryz.func91 (by kernel_rfl) rfl #[.int .u8 (rd l0_2 (rd (rd_L3 t102 x15_1) x21_2))] rfl (by (try simp only [List.map_toArray, List.map_cons, List.map_nil]); first | done | rfl | (simp only [List.length_drop, List.length_take]; rfl)) ?_; (with_reducible refine (Zcq.calls (rd l0_2 (rd (rd_L3 t102 x15_1) x21_2)) false _ A16.out).mono ?_); rintro e w' ⟨rfl, ⟨nd, rfl⟩⟩; refine ⟨_, rfl, ?_⟩))
              go_roundg k2
              case measure => have := HK1.out; have := HK2.out; omega
              case rel => exact ⟨(x5_2), (x8_2), (wrap64 (x21_2 + 1)), (by first | rfl | (simp; done) | (simp [*]; done)), (by first | rfl | (simp; done) | (simp [*]; done)), H', ⟨by have := HK1.out; have := HK2.out; omega⟩, ⟨by (with_reducible repeat (first | apply Kd.R_alloc | apply Kd.R_drewN | apply Kd.R_drew)); exact HO_5.out⟩, ⟨by (with_reducible repeat (first | apply Kd.N_alloc | apply Kd.N_drewN | apply Kd.N_drew)); exact HO_13.out⟩, ⟨by (with_reducible repeat (first | apply Kd.V_alloc | apply Kd.V_drewN | apply Kd.V_drew)); exact HLN.out⟩, ⟨by (with_reducible repeat (first | refine Zag ?_ _ | refine Zaj ?_ | refine Zaf ?_ _)); exact K01.out⟩, ⟨by with_reducible repeat first | exact HB.out | apply Zac | apply Zaa | apply Zab | refine Zah ?_ E01.out⟩⟩
            ·rw [if_neg c15] at H
             exact absurd H (by simp)
           ·rw [if_neg c14] at H
            exact absurd H (by simp)
          ·rw [if_neg c13] at H
           exact absurd H (by simp)
         ·rw [if_neg c12] at H
          exact absurd H (by simp)
        ·rw [if_neg c11] at H
         have c11b0 : decide (x21_2 < ((rd_L3 t102 x15_1).length : Int)) = false := decide_eq_false c11
         clear c11
         have H' := Zad.mk H
         clear H
         go_wp2
         go_roundg k2
         case measure => have := HK1.out; have := HK2.out; omega
         case rel => exact ⟨(x5_2), (wrap64 (x15_1 + 1)), (by first | rfl | (simp; done) | (simp [*]; done)), H', ⟨by have := HK1.out; have := HK2.out; omega⟩, ⟨by (with_reducible repeat (first | apply Kd.R_alloc | apply Kd.R_drewN | apply Kd.R_drew)); exact HO_5.out⟩, ⟨by (with_reducible repeat (first | apply Kd.N_alloc | apply Kd.N_drewN | apply Kd.N_drew)); exact HO_13.out⟩, ⟨by (with_reducible repeat (first | refine Zag ?_ _ | refine Zaj ?_ | refine Zaf ?_ _)); exact K01.out⟩, ⟨by with_reducible repeat first | exact HB.out | apply Zac | apply Zaa | apply Zab | refine Zah ?_ E01.out⟩⟩
     ·rw [if_neg c10] at H
      exact absurd H (by simp)
    ·rw [if_neg c9] at H
     exact absurd H (by simp)
   ·rw [if_neg c8] at H
    have c8b0 : decide (x15_1 < (t102.length : Int)) = false := decide_eq_false c8
    clear c8
    obtain rfl := Option.some.inj H
    go_wp2
    go_ret
    exact ⟨_, by first | rfl | (simp [Zao, Zan] <;> rfl) | (simp [*, Zao, Zan] <;> rfl), by (with_reducible repeat (first | apply Kd.R_alloc | apply Kd.R_drewN | apply Kd.R_drew)); exact HO_5.out, by repeat (first | (with_reducible first | exact HB.out | apply Zac | apply Zaa | apply Zab | refine Zah ?_ E01.out) | exact HB.out)⟩
end Go.Proofs.YtjohcjkidoalkaaGreatDoor.PA
