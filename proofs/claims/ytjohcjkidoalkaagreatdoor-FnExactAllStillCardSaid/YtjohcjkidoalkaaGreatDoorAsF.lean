/- Contracts of functions and plain lemmas, for the last text. -/
import Derived.Test.YtjohcjkidoalkaaGreatDoorAsE
import Derived.Shelf.Strings.OnBuilder
import Derived.Shelf.Strings.Trim
import Derived.Shelf.Strings.SlTrimAscii
import Derived.Shelf.Strings.Search1
import Derived.Shelf.Strings.Search2
import Derived.Shelf.Strings.Count
import Derived.Test.YtjohcjkidoalkaaGreatDoorProg
import Derived.Lib.Join
import Derived.Lib.SlTrimSet
set_option linter.unusedVariables false
set_option linter.unusedSimpArgs false
namespace Go.Proofs.YtjohcjkidoalkaaGreatDoor.PA
open Go.RowKit Go.PW.PrintWords Go.PW.PrintLast Go.PW.PrintMore
attribute [local go_sem] Zbo Zbm Zbz Zby Zbd Zbc Zbn Zbl
mutual
def Zap.l0 : Nat → Int → ByteArray → List ByteArray → Int → Int → Int → List Int → Option (List ByteArray)
 | 0, _, _, _, _, _, _, _ => none
 | k + 1, x1, x2, x7, x8, X020, X021, X022 => if 0 ≤ x1 then (if x8 < (shl .i64 1 x1) then ((Zbx.f k X020 X021 X022 x8).bind fun bt102 => (Zap.l1 k x1 x2 x7 x8 true 0 X020 X021 X022 bt102.1 bt102.2.1 bt102.2.2)) else (some x7)) else (none)
def Zap.l1 : Nat → Int → ByteArray → List ByteArray → Int → Bool → Int → Int → Int → List Int → Int → Int → List Int → Option (List ByteArray)
 | 0, _, _, _, _, _, _, _, _, _, _, _, _ => none
 | k + 1, x1, x2, x7, x8, x10, x11, X020, X021, X022, X080, X081, X082 => if x11 < (x2.size : Int) then (Zap.j2 k x1 x2 x7 x8 x10 x11 x10 X020 X021 X022 X080 X081 X082) else (Zap.j2 k x1 x2 x7 x8 x10 x11 false X020 X021 X022 X080 X081 X082)
def Zap.j2 : Nat → Int → ByteArray → List ByteArray → Int → Bool → Int → Bool → Int → Int → List Int → Int → Int → List Int → Option (List ByteArray)
 | 0, _, _, _, _, _, _, _, _, _, _, _, _, _ => none
 | k + 1, x1, x2, x7, x8, x10, x11, x29, X020, X021, X022, X080, X081, X082 => if x29 = true then (if 0 ≤ x11 then (if x11 ≤ (wrap64 (x11 + 1)) then (if (wrap64 (x11 + 1)) ≤ (x2.size : Int) then ((Zbs.f k (x2.extract (x11 : Int).toNat ((wrap64 (x11 + 1)) : Int).toNat)).bind fun t112 => ((Za4.f k X080 X081 X082 t112).bind fun t113 => (Zap.l2 k x1 x2 x7 x8 x10 x11 t113 (t113.length : Int) 0 X020 X021 X022 X080 X081 X082))) else (none)) else (none)) else (none)) else (if x10 = true then ((Zb6.f k X080 X081 X082).bind fun t108 => (if x7.length < 8796093022208 then (Zap.l0 k x1 x2 (x7 ++ [t108]) (wrap64 (x8 + 1)) X020 X021 X022) else (none))) else (Zap.l0 k x1 x2 x7 (wrap64 (x8 + 1)) X020 X021 X022))
def Zap.l2 : Nat → Int → ByteArray → List ByteArray → Int → Bool → Int → List Int → Int → Int → Int → Int → List Int → Int → Int → List Int → Option (List ByteArray)
 | 0, _, _, _, _, _, _, _, _, _, _, _, _, _, _, _ => none
 | k + 1, x1, x2, x7, x8, x10, x11, x39, x40, x41, X020, X021, X022, X080, X081, X082 => if x41 < x40 then (if 0 ≤ x41 then (if x41 < (x39.length : Int) then (if x10 = true then (Zap.l2 k x1 x2 x7 x8 ((rd x39 x41) == 0) x11 x39 x40 (wrap64 (x41 + 1)) X020 X021 X022 X080 X081 X082) else (Zap.l2 k x1 x2 x7 x8 false x11 x39 x40 (wrap64 (x41 + 1)) X020 X021 X022 X080 X081 X082)) else (none)) else (none)) else (Zap.l1 k x1 x2 x7 x8 x10 (wrap64 (x11 + 1)) X020 X021 X022 X080 X081 X082)
end
def Zap.f (k : Nat) (a0_0 : Int) (a0_1 : Int) (l0_2 : List Int) (a1 : Int) (a2 : ByteArray) : Option (List ByteArray) := Zap.l0 k a1 a2 ([] : List ByteArray) 0 a0_0 a0_1 l0_2
def Zap.T10 : Bool × List (List Nat × List Nat) := (true, [([], []), ([], []), ([], []), ([], []), ([3], [3]), ([1, 2, 4], [1, 2, 4]), ([5], [5]), ([0, 6, 6], [0, 6]), ([7], [7]), ([], [])])
def Zap.B10 : List Nat := [0, 0, 0, 0, 8, 30, 62, 127, 255, 0]
theorem Zap.tab10 : rtab .any (opsOf Tryz.f40 10) = Zap.T10 := by kernel_rfl
theorem Zap.bits10 : Zec Zap.T10.2 Zap.B10 = true := by kernel_rfl
set_option maxHeartbeats 8000000 in
set_option maxRecDepth 100000 in
theorem Zap.calls (k : Nat) (a0_0 : Int) (a0_1 : Int) (A0_2 : Option Addr) (c0_2 : Nat) (l0_2 : List Int) (a1 : Int) (a2 : ByteArray) (r : List ByteArray) (w : World) (hr0_2 : Kd.C (Kd.int .u8) w A0_2 l0_2.length l0_2) (hc0_2 : l0_2.length ≤ c0_2) (h : Zap.f k a0_0 a0_1 l0_2 a1 a2 = some r) :
  Calls Tryz.prog 40 #[.agg #[.int .i64 a0_0, .int .i64 a0_1, .slice A0_2 l0_2.length c0_2], .int .i64 a1, .string a2] w fun e w' => ∃ v0_ : Value, e = .returned (v0_) ∧ Kd.R Kd.string 9 w' w.heap.size (fun _ => True) v0_ r ∧ Below w.heap.size w w' := by
 have hu52 := Tryz.underlying52
 have HR0_2 := Zad.mk hr0_2
 have HC0_2 := Zad.mk hc0_2
 clear hr0_2 hc0_2
 have HB := Zad.mk (Below.refl w.heap.size w)
 have H : (Zap.l0 k a1 a2 ([] : List ByteArray) 0 a0_0 a0_1 l0_2) = some r := h
 clear h
 have H' := Zad.mk H
 clear H
 go_enter Tryz.func40, Tryz.ntmps40
 go_wp2_with (first | ((with_reducible refine Zay (N := 3) rfl ?_); refine Zaz ?hg (N := 3) ?hd (cs := #[.int .i64 a0_0, .int .i64 a0_1, .slice A0_2 l0_2.length c0_2]) (t := 52) ?hr ?_; (case hd => rfl); (case hg => rfl); (case hr => first | (go_simp; done) | (go_simp; rfl)); intro g01 hg w4 hbox hb; have n0_ := Zad.mk (Zal (by with_reducible repeat first | exact HB.out | apply Zac | apply Zaa | apply Zab) hb); have n1_ := Zad.mk (hbox); have n2_ := Zad.mk ((by rw [hg]; exact (Zak (by with_reducible repeat first | exact HB.out | apply Zac | apply Zaa | apply Zab)) : w.heap.size ≤ g01)); have n3_ := n2_; clear HB; have HB := n0_; have K01 := n1_; have W01 := n2_; have E01 := n3_; clear hb hbox hg))
 go_loopg [7, 8] k (fun kq v7 v8 w' => ∃ (x7_1 : List ByteArray) (x8_1 : Int), v8 = .int .i64 x8_1 ∧ Zad (Zap.l0 kq a1 a2 x7_1 x8_1 a0_0 a0_1 l0_2 = some r) ∧ Zad (kq ≤ k) ∧ Zad (Kd.R Kd.string 9 w' w.heap.size (fun _ => True) v7 x7_1) ∧ Zad (w'.heap[g01]? = some (.cells #[.int .i64 a0_0, .int .i64 a0_1, (.slice A0_2 l0_2.length c0_2)] 52 (0, 0))) ∧ Zad (Below w.heap.size w w'))
 case atStart => exact ⟨(([] : List ByteArray)), (0), (by first | rfl | (simp; done) | (simp [*]; done)), H', ⟨Nat.le_refl _⟩, ⟨by first | exact Kd.R_nil _ _ _ _ _ | exact Kd.N_nil _ _ _ _ _ | exact Kd.V_nil _ _ _ _ _ | exact Kd.Q_nil _ _ _ _ _ | exact Kd.S_nil _ _ _ _ _⟩, ⟨by (with_reducible repeat (first | refine Zag ?_ _ | refine Zaj ?_ | refine Zaf ?_ _)); exact K01.out⟩, ⟨by with_reducible repeat first | exact HB.out | apply Zac | apply Zaa | apply Zab | refine Zah ?_ E01.out⟩⟩
 case round =>
  clear H'
  obtain ⟨x7_1, x8_1, rfl, HA, HK1, HO_7, K01, HB⟩ := hrel
  cases gk with
  | zero => exact absurd HA.out (by simp [Zap.l0])
  | succ k1 =>
   have H := HA.out
   clear HA
   simp only [Zap.l0] at H
   by_cases c5 : 0 ≤ a1
   ·rw [if_pos c5] at H
    have c5b0 := eq_true c5
    have c5b1 : decide (0 ≤ a1) = true := decide_eq_true c5
    clear c5
    obtain ⟨ji6, hji6⟩ : ∃ j_ : Int, (shl .i64 1 a1) = j_ := ⟨_, rfl⟩
    replace H : (if x8_1 < (ji6) then ((Zbx.f k1 a0_0 a0_1 l0_2 x8_1).bind fun bt102 => (Zap.l1 k1 a1 a2 x7_1 x8_1 true 0 a0_0 a0_1 l0_2 bt102.1 bt102.2.1 bt102.2.2)) else (some x7_1)) = some r := by first | (rw [hji6] at H; exact H) | (simp only [hji6] at H ⊢; exact H)
    have hji6_ : (IntKind.i64.wrap (1 * 2 ^ min a1.toNat 64)) = ji6 := hji6
    have hji6z : a1 ≤ 64 → (IntKind.i64.wrap (1 * 2 ^ a1.toNat)) = ji6 := Zlk hji6
    have hji6u : (IntKind.i64.wrap (2 ^ min a1.toNat 64)) = ji6 := by have h_ := hji6_; rw [Int.one_mul] at h_; exact h_
    have hji6v : a1 ≤ 64 → (IntKind.i64.wrap (2 ^ a1.toNat)) = ji6 := fun hle_ => by have h_ := hji6z hle_; rw [Int.one_mul] at h_; exact h_
    have hji6y : (wrap64 (1 * 2 ^ min a1.toNat 64)) = ji6 := (i64_w _).symm.trans hji6_
    have hji6x : a1 ≤ 64 → (wrap64 (1 * 2 ^ a1.toNat)) = ji6 := fun h_ => (i64_w _).symm.trans (hji6z h_)
    by_cases c7 : x8_1 < (ji6)
    ·rw [if_pos c7] at H
     have c7b0 : decide (x8_1 < (ji6)) = true := decide_eq_true c7
     clear c7
     replace H := Option.bind_eq_some_iff.mp H
     obtain ⟨⟨t102, t103, t104⟩, A80, H⟩ := H
     replace H : (Zap.l1 k1 a1 a2 x7_1 x8_1 true 0 a0_0 a0_1 l0_2 t102 t103 t104) = some r := H
     have A8 := Zad.mk A80
     clear A80
     have H' := Zad.mk H
     clear H
     have hcz9_0 : wr.cell? ⟨g01, 0, none⟩ = some (.int .i64 a0_0) := (Zai K01.out 0).trans rfl
     have hcz9_1 : wr.cell? ⟨g01, 1, none⟩ = some (.int .i64 a0_1) := (Zai K01.out 1).trans rfl
     have hcz9_2 : wr.cell? ⟨g01, 2, none⟩ = some (.slice A0_2 l0_2.length c0_2) := (Zai K01.out 2).trans rfl
     have hfz9_0 := Zae K01.out 0
     have hfz9_1 := Zae K01.out 1
     have hfz9_2 := Zae K01.out 2
     go_wp2_with (first | ((with_reducible refine Zau (f := 76) rfl ?_); refine Zbr (some 22) rfl rfl Tryz.func76 (by kernel_rfl) rfl #[.agg #[.int .i64 a0_0, .int .i64 a0_1, .slice A0_2 l0_2.length c0_2], .int .i64 x8_1] rfl (by (try simp only [List.map_toArray, List.map_cons, List.map_nil]); first | done | rfl | (simp only [List.length_drop, List.length_take]; rfl)) ?_; (with_reducible refine (Zbx.calls k1 a0_0 a0_1 _ _ l0_2 x8_1 t102 t103 t104 _ ?side1 ?side2 A8.out).mono ?_); (case side1 => repeat (first | exact (Kd.C_below HR0_2.out HB.out) | (with_reducible refine Kd.C_alloc ?_ _) | (with_reducible refine Kd.C_drewN ?_ _) | (with_reducible refine Kd.C_drew ?_))); (case side2 => exact HC0_2.out); rintro e w10 ⟨v105, rfl, ho0, hb⟩; refine ⟨_, rfl, ?_⟩; have n0_ := Zad.mk (Kd.R_below (by (with_reducible repeat (first | apply Kd.R_alloc | apply Kd.R_drewN | apply Kd.R_drew)); exact HO_7.out) hb); have n1_ := Zad.mk (Kd.R_lower ho0 (Zak (by with_reducible repeat first | exact HB.out | apply Zac | apply Zaa | apply Zab | refine Zah ?_ E01.out))); have n2_ := Zad.mk (Zav (g := g01) (o := .cells #[.int .i64 a0_0, .int .i64 a0_1, .slice A0_2 l0_2.length c0_2] 52 (0, 0)) (by (with_reducible repeat (first | refine Zag ?_ _ | refine Zaj ?_ | refine Zaf ?_ _)); exact K01.out) hb); have n3_ := Zad.mk (Zal (by with_reducible repeat first | exact HB.out | apply Zac | apply Zaa | apply Zab | refine Zah ?_ E01.out) hb); clear HO_7; clear K01; clear HB; have HO_7 := n0_; have HO106 := n1_; have K01 := n2_; have HB := n3_) | ((with_reducible refine Zay (N := 9) rfl ?_); refine Zaz ?hg (N := 9) ?hd (cs := #[.int .i64 0, .int .i64 0, .slice none 0 0]) (t := 52) ?hr ?_; (case hd => rfl); (case hg => rfl); (case hr => first | (go_simp; done) | (go_simp; rfl)); intro g07 hg w11 hbox hb; have n0_ := Zad.mk (Kd.R_below (by (with_reducible repeat (first | apply Kd.R_alloc | apply Kd.R_drewN | apply Kd.R_drew)); exact HO_7.out) hb); have n1_ := Zad.mk (Kd.R_below (by (with_reducible repeat (first | apply Kd.R_alloc | apply Kd.R_drewN | apply Kd.R_drew)); exact HO106.out) hb); have n2_ := Zad.mk (Zav (g := g01) (o := .cells #[.int .i64 a0_0, .int .i64 a0_1, .slice A0_2 l0_2.length c0_2] 52 (0, 0)) (by (with_reducible repeat (first | refine Zag ?_ _ | refine Zaj ?_ | refine Zaf ?_ _)); exact K01.out) hb); have n3_ := Zad.mk (Zal (by with_reducible repeat first | exact HB.out | apply Zac | apply Zaa | apply Zab | refine Zah ?_ E01.out) hb); have n4_ := Zad.mk (hbox); have n5_ := Zad.mk ((by rw [hg]; exact (Zak (by with_reducible repeat first | exact HB.out | apply Zac | apply Zaa | apply Zab | refine Zah ?_ E01.out)) : w.heap.size ≤ g07)); have n6_ := Zad.mk ((by rw [hg]; exact (Zak (by with_reducible repeat first | exact HB.out | apply Zac | apply Zaa | apply Zab | refine Zah ?_ E01.out)) : w.heap.size ≤ g07)); have n7_ := Zad.mk ((by rw [hg]; exact Nat.ne_of_lt (Zct (g := g01) (o := .cells #[.int .i64 a0_0, .int .i64 a0_1, .slice A0_2 l0_2.length c0_2] 52 (0, 0)) (by (with_reducible repeat (first | refine Zag ?_ _ | refine Zaj ?_ | refine Zaf ?_ _)); exact K01.out)) : g01 ≠ g07)); have n8_ := Zad.mk ((by rw [hg]; exact Nat.ne_of_gt (Zct (g := g01) (o := .cells #[.int .i64 a0_0, .int .i64 a0_1, .slice A0_2 l0_2.length c0_2] 52 (0, 0)) (by (with_reducible repeat (first | refine Zag ?_ _ | refine Zaj ?_ | refine Zaf ?_ _)); exact K01.out)) : g07 ≠ g01)); clear HO_7; clear HO106; clear K01; clear HB; have HO_7 := n0_; have HO106 := n1_; have K01 := n2_; have HB := n3_; have K07 := n4_; have W07 := n5_; have E07 := n6_; have N01_07 := n7_; have N07_01 := n8_; clear hb hbox hg; have hnb12 := N07_01.out; have hnc12 := N01_07.out; have hcz13_0 : w11.cell? ⟨g07, 0, none⟩ = some (.int .i64 0) := (Zai K07.out 0).trans rfl; have hcz13_1 : w11.cell? ⟨g07, 1, none⟩ = some (.int .i64 0) := (Zai K07.out 1).trans rfl; have hcz13_2 : w11.cell? ⟨g07, 2, none⟩ = some (.slice none 0 0) := (Zai K07.out 2).trans rfl; have hfz13_0 := Zae K07.out 0; have hfz13_1 := Zae K07.out 1; have hfz13_2 := Zae K07.out 2; obtain ⟨Ao14, co14, eo14⟩ := Kd.R_slice HO106.out; subst eo14))
     go_loopg [10, 11] k1 (fun kq v10 v11 w' => ∃ (x10_2 : Bool) (x11_2 : Int), v10 = .bool x10_2 ∧ v11 = .int .i64 x11_2 ∧ Zad (Zap.l1 kq a1 a2 x7_1 x8_1 x10_2 x11_2 a0_0 a0_1 l0_2 t102 t103 t104 = some r) ∧ Zad (kq ≤ k1) ∧ Zad (Kd.R Kd.string 9 w' w.heap.size (fun _ => True) u7 x7_1) ∧ Zad (Kd.R (Kd.int .u8) 5 w' w.heap.size (fun _ => True) (.slice Ao14 t104.length co14) t104) ∧ Zad (w'.heap[g01]? = some (.cells #[.int .i64 a0_0, .int .i64 a0_1, (.slice A0_2 l0_2.length c0_2)] 52 (0, 0))) ∧ Zad (w'.heap[g07]? = some (.cells #[.int .i64 t102, .int .i64 t103, (.slice Ao14 t104.length co14)] 52 (0, 0))) ∧ Zad (Below w.heap.size w w'))
     case atStart => exact ⟨(true), (0), (by first | rfl | (simp; done) | (simp [*]; done)), (by first | rfl | (simp; done) | (simp [*]; done)), H', ⟨Nat.le_refl _⟩, ⟨by (with_reducible repeat (first | apply Kd.R_alloc | apply Kd.R_drewN | apply Kd.R_drew)); exact Kd.R_mono (Kd.R_far (p := ⟨g07, 2, none⟩) (Kd.R_far (p := ⟨g07, 1, none⟩) (Kd.R_far (p := ⟨g07, 0, none⟩) (Kd.R_types HO_7.out K07.out (by decide)) (fun _ hk => hk.2) (.int .i64 t102)) (fun _ hk => hk.2) (.int .i64 t103)) (fun _ hk => hk.2) (.slice Ao14 t104.length co14)) (fun _ hk => trivial)⟩, ⟨by (with_reducible repeat (first | apply Kd.R_alloc | apply Kd.R_drewN | apply Kd.R_drew)); exact Kd.R_mono (Kd.R_far (p := ⟨g07, 2, none⟩) (Kd.R_far (p := ⟨g07, 1, none⟩) (Kd.R_far (p := ⟨g07, 0, none⟩) (Kd.R_types HO106.out K07.out (by decide)) (fun _ hk => hk.2) (.int .i64 t102)) (fun _ hk => hk.2) (.int .i64 t103)) (fun _ hk => hk.2) (.slice Ao14 t104.length co14)) (fun _ hk => trivial)⟩, ⟨by (with_reducible repeat (first | refine Zag ?_ _ | refine Zaj ?_ | refine Zaf ?_ _)); refine Zb9 ?_ N01_07.out _; (with_reducible repeat (first | refine Zag ?_ _ | refine Zaj ?_ | refine Zaf ?_ _)); refine Zb9 ?_ N01_07.out _; (with_reducible repeat (first | refine Zag ?_ _ | refine Zaj ?_ | refine Zaf ?_ _)); refine Zb9 ?_ N01_07.out _; (with_reducible repeat (first | refine Zag ?_ _ | refine Zaj ?_ | refine Zaf ?_ _)); exact K01.out⟩, ⟨by (with_reducible repeat (first | refine Zag ?_ _ | refine Zaj ?_ | refine Zaf ?_ _)); refine Za1 (cs := #[.int .i64 t102, .int .i64 t103, .slice none 0 0]) ?_ 2 _ rfl; (with_reducible repeat (first | refine Zag ?_ _ | refine Zaj ?_ | refine Zaf ?_ _)); refine Za1 (cs := #[.int .i64 t102, .int .i64 0, .slice none 0 0]) ?_ 1 _ rfl; (with_reducible repeat (first | refine Zag ?_ _ | refine Zaj ?_ | refine Zaf ?_ _)); refine Za1 (cs := #[.int .i64 0, .int .i64 0, .slice none 0 0]) ?_ 0 _ rfl; (with_reducible repeat (first | refine Zag ?_ _ | refine Zaj ?_ | refine Zaf ?_ _)); exact K07.out⟩, ⟨by with_reducible repeat first | exact HB.out | apply Zac | apply Zaa | apply Zab | refine Zah ?_ E01.out | refine Zah ?_ E07.out⟩⟩
     case round =>
      clear H'
      obtain ⟨x10_2, x11_2, rfl, rfl, HA, HK2, HO_7, HO_108002, K01, K07, HB⟩ := hrel
      cases gk with
      | zero => exact absurd HA.out (by simp [Zap.l1])
      | succ k2 =>
       have H := HA.out
       clear HA
       simp only [Zap.l1] at H
       have HC15 := Zad.mk H
       clear H
       go_upto_region 8 with (fail)
       go_cut [29] (fun v29 wc => ∃ (kq : Nat) (x29_14 : Bool), v29 = .bool x29_14 ∧ Zad (Zap.j2 kq a1 a2 x7_1 x8_1 x10_2 x11_2 x29_14 a0_0 a0_1 l0_2 t102 t103 t104 = some r) ∧ Zad (kq ≤ k2) ∧ Zad (Kd.R Kd.string 9 wc w.heap.size (fun _ => True) u7 x7_1) ∧ Zad (Kd.R (Kd.int .u8) 5 wc w.heap.size (fun _ => True) (.slice Ao14 t104.length co14) t104) ∧ Zad (wc.heap[g01]? = some (.cells #[.int .i64 a0_0, .int .i64 a0_1, (.slice A0_2 l0_2.length c0_2)] 52 (0, 0))) ∧ Zad (wc.heap[g07]? = some (.cells #[.int .i64 t102, .int .i64 t103, (.slice Ao14 t104.length co14)] 52 (0, 0))) ∧ Zad (Below w.heap.size w wc))
       case first =>
        have H := HC15.out
        clear HC15
        by_cases c16 : x11_2 < (a2.size : Int)
        ·rw [if_pos c16] at H
         have c16b0 : decide (x11_2 < (a2.size : Int)) = true := decide_eq_true c16
         clear c16
         (first | rw [c16b0] | (simp only [i64_w, i32_w]; rw [c16b0]) | skip)
         have H' := Zad.mk H
         clear H
         go_wp2
         go_meet
         case rel => exact ⟨_, (x10_2), (by first | rfl | (simp; done) | (simp [*]; done)), H', ⟨by have := HK1.out; have := HK2.out; first | omega | exact Nat.le_refl _⟩, ⟨by (with_reducible repeat (first | apply Kd.R_alloc | apply Kd.R_drewN | apply Kd.R_drew)); exact HO_7.out⟩, ⟨by (with_reducible repeat (first | apply Kd.R_alloc | apply Kd.R_drewN | apply Kd.R_drew)); exact HO_108002.out⟩, ⟨by (with_reducible repeat (first | refine Zag ?_ _ | refine Zaj ?_ | refine Zaf ?_ _)); exact K01.out⟩, ⟨by (with_reducible repeat (first | refine Zag ?_ _ | refine Zaj ?_ | refine Zaf ?_ _)); exact K07.out⟩, ⟨by with_reducible repeat first | exact HB.out | apply Zac | apply Zaa | apply Zab | refine Zah ?_ E01.out | refine Zah ?_ E07.out⟩⟩
        ·rw [if_neg c16] at H
         have c16b0 : decide (x11_2 < (a2.size : Int)) = false := decide_eq_false c16
         clear c16
         (first | rw [c16b0] | (simp only [i64_w, i32_w]; rw [c16b0]) | skip)
         have H' := Zad.mk H
         clear H
         go_wp2
         go_meet
         case rel => exact ⟨_, (false), (by first | rfl | (simp; done) | (simp [*]; done)), H', ⟨by have := HK1.out; have := HK2.out; first | omega | exact Nat.le_refl _⟩, ⟨by (with_reducible repeat (first | apply Kd.R_alloc | apply Kd.R_drewN | apply Kd.R_drew)); exact HO_7.out⟩, ⟨by (with_reducible repeat (first | apply Kd.R_alloc | apply Kd.R_drewN | apply Kd.R_drew)); exact HO_108002.out⟩, ⟨by (with_reducible repeat (first | refine Zag ?_ _ | refine Zaj ?_ | refine Zaf ?_ _)); exact K01.out⟩, ⟨by (with_reducible repeat (first | refine Zag ?_ _ | refine Zaj ?_ | refine Zaf ?_ _)); exact K07.out⟩, ⟨by with_reducible repeat first | exact HB.out | apply Zac | apply Zaa | apply Zab | refine Zah ?_ E01.out | refine Zah ?_ E07.out⟩⟩
       case rest =>
        clear HC15
        obtain ⟨kq, x29_14, rfl, HA, HJ14, HO_7, HO_108002, K01, K07, HB⟩ := hcut
        cases kq with
        | zero => exact absurd HA.out (by simp [Zap.j2])
        | succ kj14 =>
         have H := HA.out
         clear HA
         simp only [Zap.j2] at H
         by_cases c17 : x29_14 = true
         ·subst c17
          have H1 : (if 0 ≤ x11_2 then (if x11_2 ≤ (wrap64 (x11_2 + 1)) then (if (wrap64 (x11_2 + 1)) ≤ (a2.size : Int) then ((Zbs.f kj14 (a2.extract (x11_2 : Int).toNat ((wrap64 (x11_2 + 1)) : Int).toNat)).bind fun t112 => ((Za4.f kj14 t102 t103 t104 t112).bind fun t113 => (Zap.l2 kj14 a1 a2 x7_1 x8_1 x10_2 x11_2 t113 (t113.length : Int) 0 a0_0 a0_1 l0_2 t102 t103 t104))) else (none)) else (none)) else (none)) = some r := by rw [if_pos rfl] at H; exact H
          clear H
          have H := H1
          clear H1
          by_cases c18 : 0 ≤ x11_2
          ·rw [if_pos c18] at H
           have c18b0 := eq_true c18
           have c18b1 : decide (0 ≤ x11_2) = true := decide_eq_true c18
           clear c18
           by_cases c19 : x11_2 ≤ (wrap64 (x11_2 + 1))
           ·rw [if_pos c19] at H
            have c19b0 := eq_true c19
            have c19b1 : decide (x11_2 ≤ (wrap64 (x11_2 + 1))) = true := decide_eq_true c19
            by_cases c20 : (wrap64 (x11_2 + 1)) ≤ (a2.size : Int)
            ·rw [if_pos c20] at H
             have c20b0 := eq_true c20
             have c20b1 : decide ((wrap64 (x11_2 + 1)) ≤ (a2.size : Int)) = true := decide_eq_true c20
             replace H := Option.bind_eq_some_iff.mp H
             obtain ⟨t112, A210, H⟩ := H
             replace H : ((Za4.f kj14 t102 t103 t104 t112).bind fun t113 => (Zap.l2 kj14 a1 a2 x7_1 x8_1 x10_2 x11_2 t113 (t113.length : Int) 0 a0_0 a0_1 l0_2 t102 t103 t104)) = some r := H
             have A21 := Zad.mk A210
             clear A210
             replace H := Option.bind_eq_some_iff.mp H
             obtain ⟨t113, A220, H⟩ := H
             replace H : (Zap.l2 kj14 a1 a2 x7_1 x8_1 x10_2 x11_2 t113 (t113.length : Int) 0 a0_0 a0_1 l0_2 t102 t103 t104) = some r := H
             have A22 := Zad.mk A220
             clear A220
             have H' := Zad.mk H
             clear H
             try go_wp2
             have n0_ := Zad.mk (Kd.R_drew HO_7.out)
             have n1_ := Zad.mk (Kd.R_drew HO_108002.out)
             have n2_ := Zad.mk (Zaj K01.out)
             have n3_ := Zad.mk (Zaj K07.out)
             have n4_ := Zad.mk (Zab HB.out)
             clear HO_7
             clear HO_108002
             clear K01
             clear K07
             clear HB
             have HO_7 := n0_
             have HO_108002 := n1_
             have K01 := n2_
             have K07 := n3_
             have HB := n4_
             clear n0_ n1_ n2_ n3_ n4_
             refine Zfe (n := 10) (S := fun w' => w'.cell? ⟨g07, 0, none⟩ = some (.int .i64 t102) ∧ w'.cell? ⟨g07, 1, none⟩ = some (.int .i64 t103) ∧ w'.cell? ⟨g07, 2, none⟩ = some (.slice Ao14 t104.length co14)) (ds := []) #[false, false, false, false, false, false, false, false, false, false] (by kernel_rfl) rfl rfl ⟨(Zai K07.out 0).trans rfl, (Zai K07.out 1).trans rfl, (Zai K07.out 2).trans rfl⟩ (fun hHeld => ?_); refine Zdv Zap.tab10 Zap.bits10 (fun HT_ HW_ => ?_)
             generalize wc.drew = w23 at HO_7 HO_108002 K01 K07 HB hHeld ⊢
             refine pure_ (i := 1) (N := some 33) (v := ?_) (a' := ?_) #[false, true, false, false, false, false, false, false, false, false] rfl rfl (Zb5 HT_.out (by kernel_rfl)) (fun _ _ _ h => h) (Or.inl ⟨by rfl, ?_⟩) ?_ ?_
             rotate_left
             ·intro w'
              go_simp
              with_reducible rfl
             rotate_left
             ·simp only [Act.put, List.setIfInBounds_toArray, List.set_cons_zero, List.set_cons_succ, i64_w, i32_w]
              rfl
             refine pure_ (i := 2) (N := some 34) (v := ?_) (a' := ?_) #[false, true, true, false, false, false, false, false, false, false] rfl rfl (Zb5 HT_.out (by kernel_rfl)) (fun _ _ _ h => h) (Or.inl ⟨by rfl, ?_⟩) ?_ ?_
             rotate_left
             ·intro w'
              go_simp
              with_reducible rfl
             rotate_left
             ·simp only [Act.put, List.setIfInBounds_toArray, List.set_cons_zero, List.set_cons_succ, i64_w, i32_w]
              rfl
             refine pure_ (i := 3) (N := some 35) (v := ?_) (a' := ?_) #[false, true, true, true, false, false, false, false, false, false] rfl rfl (Zb5 HT_.out (by kernel_rfl)) (fun _ _ _ h => h) (Or.inl ⟨by rfl, ?_⟩) ?_ ?_
             rotate_left
             ·intro w'
              go_simp
              with_reducible rfl
             rotate_left
             ·simp only [Act.put, List.setIfInBounds_toArray, List.set_cons_zero, List.set_cons_succ, i64_w, i32_w]
              rfl
             refine pure_ (i := 4) (N := some 36) (v := ?_) (a' := ?_) #[false, true, true, true, true, false, false, false, false, false] rfl rfl (Zb5 HT_.out (by kernel_rfl)) (fun _ _ _ h => h) (Or.inl ⟨by rfl, ?_⟩) ?_ ?_
             rotate_left
             ·intro w'
              go_simp
              with_reducible rfl
             rotate_left
             ·simp only [Act.put, List.setIfInBounds_toArray, List.set_cons_zero, List.set_cons_succ, i64_w, i32_w]
              rfl
             refine pure_ (i := 5) (N := some 37) (v := ?_) (a' := ?_) #[false, true, true, true, true, true, false, false, false, false] rfl rfl (Zb5 HT_.out (by kernel_rfl)) (fun _ _ _ h => h) (Or.inl ⟨by rfl, ?_⟩) ?_ ?_
             rotate_left
             ·intro w'
              go_simp
              with_reducible rfl
             rotate_left
             ·simp only [Act.put, List.setIfInBounds_toArray, List.set_cons_zero, List.set_cons_succ, i64_w, i32_w]
              rfl
             refine pure_ (i := 9) (N := some 41) (v := ?_) (a' := ?_) #[false, true, true, true, true, true, false, false, false, true] rfl rfl (Zb5 HT_.out (by kernel_rfl)) (fun _ _ _ h => h) (Or.inl ⟨by rfl, ?_⟩) ?_ ?_
             rotate_left
             ·intro w'
              go_simp
              with_reducible rfl
             rotate_left
             ·simp only [Act.put, List.setIfInBounds_toArray, List.set_cons_zero, List.set_cons_succ, i64_w, i32_w]
              rfl
             refine take_ (i := 0) (N := some 32) (v := ?_) (a' := ?_) #[true, true, true, true, true, true, false, false, false, true] rfl rfl (Zdb HT_.out HW_.out (by kernel_rfl)) (fun _ _ _ h => h) (Or.inl ⟨by rfl, ?_⟩) hHeld ?_ ?_
             rotate_left
             ·rintro w' ⟨s0, s1, s2⟩
              go_simp
              with_reducible rfl
             rotate_left
             ·simp only [Act.put, List.setIfInBounds_toArray, List.set_cons_zero, List.set_cons_succ, i64_w, i32_w]
              rfl
             refine one_ (i := 6) (N := some 38) #[true, true, true, true, true, true, true, false, false, true] rfl rfl (Zd0 HT_.out (by kernel_rfl)) (by decide) (fun K hK => ?_)
             refine goes_ Tryz.func78 (by kernel_rfl) rfl #[.string (a2.extract (x11_2 : Int).toNat ((wrap64 (x11_2 + 1)) : Int).toNat)] (by rfl) rfl rfl (by (try simp only [List.map_toArray, List.map_cons, List.map_nil]); first | done | rfl | (simp only [List.length_drop, List.length_take]; rfl)) ?_
             with_reducible refine (Zbs.calls kj14 (a2.extract (x11_2 : Int).toNat ((wrap64 (x11_2 + 1)) : Int).toNat) t112 _ A21.out).mono ?_
             rintro e w' ⟨rfl, ⟨nd, rfl⟩⟩
             refine ⟨_, rfl, ?_⟩
             refine hK.out _ _ ⟨(Zai K07.out 0).trans rfl, (Zai K07.out 1).trans rfl, (Zai K07.out 2).trans rfl⟩ (fun hHeld => ?_)
             clear hK K
             refine norm_ (a' := ?_) ?_ ?_
             rotate_left
             ·show Act.put _ (some 38) _ = _
              simp only [Act.put, List.setIfInBounds_toArray, List.set_cons_zero, List.set_cons_succ, i64_w, i32_w]
              rfl
             refine one_ (i := 7) (N := some 39) #[true, true, true, true, true, true, true, true, false, true] rfl rfl (Zd0 HT_.out (by kernel_rfl)) (by decide) (fun K hK => ?_)
             refine goes_ Tryz.func77 (by kernel_rfl) rfl #[.agg #[.int .i64 t102, .int .i64 t103, .slice Ao14 t104.length co14], .int .i64 t112] (by rfl) rfl rfl (by (try simp only [List.map_toArray, List.map_cons, List.map_nil]); first | done | rfl | (simp only [List.length_drop, List.length_take]; rfl)) ?_
             with_reducible refine (Za4.calls kj14 t102 t103 _ _ t104 t112 t113 _ ?side1 ?side2 A22.out).mono ?_
             (case side1 => repeat (first | exact (Kd.R_reads' HO_108002.out).2.2 | (with_reducible refine Kd.C_alloc ?_ _) | (with_reducible refine Kd.C_drewN ?_ _) | (with_reducible refine Kd.C_drew ?_)))
             (case side2 => exact (Kd.R_reads' HO_108002.out).2.1)
             rintro e w24 ⟨v114, rfl, ho0, hb⟩
             refine ⟨_, rfl, ?_⟩
             have n0_ := Zad.mk (Kd.R_below (by (with_reducible repeat (first | apply Kd.R_alloc | apply Kd.R_drewN | apply Kd.R_drew)); exact HO_7.out) hb)
             have n1_ := Zad.mk (Kd.R_below (by (with_reducible repeat (first | apply Kd.R_alloc | apply Kd.R_drewN | apply Kd.R_drew)); exact HO_108002.out) hb)
             have n2_ := Zad.mk (Kd.R_lower ho0 (Zak (by with_reducible repeat first | exact HB.out | apply Zac | apply Zaa | apply Zab | refine Zah ?_ E01.out | refine Zah ?_ E07.out)))
             have n3_ := Zad.mk (Zav (g := g01) (o := .cells #[.int .i64 a0_0, .int .i64 a0_1, .slice A0_2 l0_2.length c0_2] 52 (0, 0)) (by (with_reducible repeat (first | refine Zag ?_ _ | refine Zaj ?_ | refine Zaf ?_ _)); exact K01.out) hb)
             have n4_ := Zad.mk (Zav (g := g07) (o := .cells #[.int .i64 t102, .int .i64 t103, .slice Ao14 t104.length co14] 52 (0, 0)) (by (with_reducible repeat (first | refine Zag ?_ _ | refine Zaj ?_ | refine Zaf ?_ _)); exact K07.out) hb)
             have n5_ := Zad.mk (Zal (by with_reducible repeat first | exact HB.out | apply Zac | apply Zaa | apply Zab | refine Zah ?_ E01.out | refine Zah ?_ E07.out) hb)
             clear HO_7
             clear HO_108002
             clear K01
             clear K07
             clear HB
             have HO_7 := n0_
             have HO_108002 := n1_
             have HO115 := n2_
             have K01 := n3_
             have K07 := n4_
             have HB := n5_
             clear n0_ n1_ n2_ n3_ n4_ n5_
             (try clear hb)
             (try clear hb2)
             (try clear hk)
             (try clear hi)
             (try clear ho0)
             obtain ⟨Ao25, co25, eo25⟩ := Kd.R_slice HO115.out
             (first | subst eo25 | (injection eo25 with f1_ f2_ f3_; have f4_ := f1_.symm; have f5_ := f3_.symm; clear f1_ f2_ f3_; subst f4_; subst f5_))
             refine hK.out _ _ ⟨(Zai K07.out 0).trans rfl, (Zai K07.out 1).trans rfl, (Zai K07.out 2).trans rfl⟩ (fun hHeld => ?_)
             clear hK K
             refine norm_ (a' := ?_) ?_ ?_
             rotate_left
             ·show Act.put _ (some 39) _ = _
              simp only [Act.put, List.setIfInBounds_toArray, List.set_cons_zero, List.set_cons_succ, i64_w, i32_w]
              rfl
             refine pure_ (i := 8) (N := some 40) (v := ?_) (a' := ?_) #[true, true, true, true, true, true, true, true, true, true] rfl rfl (Zb5 HT_.out (by kernel_rfl)) (fun _ _ _ h => h) (Or.inl ⟨by rfl, ?_⟩) ?_ ?_
             rotate_left
             ·intro w'
              go_simp
              with_reducible rfl
             rotate_left
             ·simp only [Act.put, List.setIfInBounds_toArray, List.set_cons_zero, List.set_cons_succ, i64_w, i32_w]
              rfl
             refine done_ (Ze4 HT_.out (by kernel_rfl)) ?_
             try go_wp2
             go_loopg [10, 41] kj14 (fun kq v10 v41 w' => ∃ (x10_4 : Bool) (x41_4 : Int), v10 = .bool x10_4 ∧ v41 = .int .i64 x41_4 ∧ Zad (Zap.l2 kq a1 a2 x7_1 x8_1 x10_4 x11_2 t113 (t113.length : Int) x41_4 a0_0 a0_1 l0_2 t102 t103 t104 = some r) ∧ Zad (kq ≤ kj14) ∧ Zad (Kd.R Kd.string 9 w' w.heap.size (fun _ => True) u7 x7_1) ∧ Zad (Kd.R (Kd.int .i64) 3 w' w.heap.size (fun _ => True) (.slice Ao25 t113.length co25) t113) ∧ Zad (Kd.R (Kd.int .u8) 5 w' w.heap.size (fun _ => True) (.slice Ao14 t104.length co14) t104) ∧ Zad (w'.heap[g01]? = some (.cells #[.int .i64 a0_0, .int .i64 a0_1, (.slice A0_2 l0_2.length c0_2)] 52 (0, 0))) ∧ Zad (w'.heap[g07]? = some (.cells #[.int .i64 t102, .int .i64 t103, (.slice Ao14 t104.length co14)] 52 (0, 0))) ∧ Zad (Below w.heap.size w w'))
             case atStart => exact ⟨(x10_2), (0), (by first | rfl | (simp; done) | (simp [*]; done)), (by first | rfl | (simp; done) | (simp [*]; done)), H', ⟨Nat.le_refl _⟩, ⟨by (with_reducible repeat (first | apply Kd.R_alloc | apply Kd.R_drewN | apply Kd.R_drew)); exact HO_7.out⟩, ⟨by (with_reducible repeat (first | apply Kd.R_alloc | apply Kd.R_drewN | apply Kd.R_drew)); exact HO115.out⟩, ⟨by (with_reducible repeat (first | apply Kd.R_alloc | apply Kd.R_drewN | apply Kd.R_drew)); exact HO_108002.out⟩, ⟨by (with_reducible repeat (first | refine Zag ?_ _ | refine Zaj ?_ | refine Zaf ?_ _)); exact K01.out⟩, ⟨by (with_reducible repeat (first | refine Zag ?_ _ | refine Zaj ?_ | refine Zaf ?_ _)); exact K07.out⟩, ⟨by with_reducible repeat first | exact HB.out | apply Zac | apply Zaa | apply Zab | refine Zah ?_ E01.out | refine Zah ?_ E07.out⟩⟩
             case round =>
              clear H'
              obtain ⟨x10_4, x41_4, rfl, rfl, HA, HK4, HO_7, HO_39, HO_108002, K01, K07, HB⟩ := hrel
              cases gk with
              | zero => exact absurd HA.out (by simp [Zap.l2])
              | succ k4 =>
               have H := HA.out
               clear HA
               simp only [Zap.l2] at H
               by_cases c26 : x41_4 < (t113.length : Int)
               ·rw [if_pos c26] at H
                have c26b0 : decide (x41_4 < (t113.length : Int)) = true := decide_eq_true c26
                clear c26
                by_cases c27 : 0 ≤ x41_4
                ·rw [if_pos c27] at H
                 have c27b0 : decide (0 ≤ x41_4) = true := decide_eq_true c27
                 clear c27
                 by_cases c28 : x41_4 < (t113.length : Int)
                 ·rw [if_pos c28] at H
                  have c28b0 : decide (x41_4 < (t113.length : Int)) = true := decide_eq_true c28
                  clear c28
                  by_cases c29 : x10_4 = true
                  ·subst c29
                   have H1 : (Zap.l2 k4 a1 a2 x7_1 x8_1 ((rd t113 x41_4) == 0) x11_2 t113 (t113.length : Int) (wrap64 (x41_4 + 1)) a0_0 a0_1 l0_2 t102 t103 t104) = some r := by rw [if_pos rfl] at H; exact H
                   clear H
                   have H := H1
                   clear H1
                   have H' := Zad.mk H
                   clear H
                   have p116 : 0 ≤ (x41_4 : Int) := of_decide_eq_true (by first | (with_reducible assumption) | assumption)
                   have q116 : x41_4 < (t113.length : Int) := of_decide_eq_true (by first | (with_reducible assumption) | assumption)
                   obtain ⟨ad116, e116, hx116_0⟩ := Kd.at_int (Kd.R_reads' HO_39.out).2.2 x41_4 p116 q116
                   cases e116
                   replace p116 := eq_true p116
                   replace q116 := eq_true q116
                   go_wp2
                   go_roundg k4
                   case measure => have := HK1.out; have := HK2.out; have := HJ14.out; have := HK4.out; omega
                   case rel => exact ⟨(((rd t113 x41_4) == 0)), (wrap64 (x41_4 + 1)), (by first | rfl | (simp; done) | (simp [*]; done)), (by first | rfl | (simp; done) | (simp [*]; done)), H', ⟨by have := HK1.out; have := HK2.out; have := HJ14.out; have := HK4.out; omega⟩, ⟨by (with_reducible repeat (first | apply Kd.R_alloc | apply Kd.R_drewN | apply Kd.R_drew)); exact HO_7.out⟩, ⟨by (with_reducible repeat (first | apply Kd.R_alloc | apply Kd.R_drewN | apply Kd.R_drew)); exact HO_39.out⟩, ⟨by (with_reducible repeat (first | apply Kd.R_alloc | apply Kd.R_drewN | apply Kd.R_drew)); exact HO_108002.out⟩, ⟨by (with_reducible repeat (first | refine Zag ?_ _ | refine Zaj ?_ | refine Zaf ?_ _)); exact K01.out⟩, ⟨by (with_reducible repeat (first | refine Zag ?_ _ | refine Zaj ?_ | refine Zaf ?_ _)); exact K07.out⟩, ⟨by with_reducible repeat first | exact HB.out | apply Zac | apply Zaa | apply Zab | refine Zah ?_ E01.out | refine Zah ?_ E07.out⟩⟩
                  ·replace c29 := Bool.eq_false_iff.mpr c29
                   subst c29
                   have H1 : (Zap.l2 k4 a1 a2 x7_1 x8_1 false x11_2 t113 (t113.length : Int) (wrap64 (x41_4 + 1)) a0_0 a0_1 l0_2 t102 t103 t104) = some r := by rw [if_neg (show ¬ (false = true) by decide)] at H; exact H
                   clear H
                   have H := H1
                   clear H1
                   have H' := Zad.mk H
                   clear H
                   have p116 : 0 ≤ (x41_4 : Int) := of_decide_eq_true (by first | (with_reducible assumption) | assumption)
                   have q116 : x41_4 < (t113.length : Int) := of_decide_eq_true (by first | (with_reducible assumption) | assumption)
                   obtain ⟨ad116, e116, hx116_0⟩ := Kd.at_int (Kd.R_reads' HO_39.out).2.2 x41_4 p116 q116
                   cases e116
                   replace p116 := eq_true p116
                   replace q116 := eq_true q116
                   go_wp2
                   go_roundg k4
                   case measure => have := HK1.out; have := HK2.out; have := HJ14.out; have := HK4.out; omega
                   case rel => exact ⟨(false), (wrap64 (x41_4 + 1)), (by first | rfl | (simp; done) | (simp [*]; done)), (by first | rfl | (simp; done) | (simp [*]; done)), H', ⟨by have := HK1.out; have := HK2.out; have := HJ14.out; have := HK4.out; omega⟩, ⟨by (with_reducible repeat (first | apply Kd.R_alloc | apply Kd.R_drewN | apply Kd.R_drew)); exact HO_7.out⟩, ⟨by (with_reducible repeat (first | apply Kd.R_alloc | apply Kd.R_drewN | apply Kd.R_drew)); exact HO_39.out⟩, ⟨by (with_reducible repeat (first | apply Kd.R_alloc | apply Kd.R_drewN | apply Kd.R_drew)); exact HO_108002.out⟩, ⟨by (with_reducible repeat (first | refine Zag ?_ _ | refine Zaj ?_ | refine Zaf ?_ _)); exact K01.out⟩, ⟨by (with_reducible repeat (first | refine Zag ?_ _ | refine Zaj ?_ | refine Zaf ?_ _)); exact K07.out⟩, ⟨by with_reducible repeat first | exact HB.out | apply Zac | apply Zaa | apply Zab | refine Zah ?_ E01.out | refine Zah ?_ E07.out⟩⟩
                 ·rw [if_neg c28] at H
                  exact absurd H (by simp)
                ·rw [if_neg c27] at H
                 exact absurd H (by simp)
               ·rw [if_neg c26] at H
                have c26b0 : decide (x41_4 < (t113.length : Int)) = false := decide_eq_false c26
                clear c26
                have H' := Zad.mk H
                clear H
                go_wp2
                go_roundg k4
                case measure => have := HK1.out; have := HK2.out; have := HJ14.out; have := HK4.out; omega
                case rel => exact ⟨(x10_4), (wrap64 (x11_2 + 1)), (by first | rfl | (simp; done) | (simp [*]; done)), (by first | rfl | (simp; done) | (simp [*]; done)), H', ⟨by have := HK1.out; have := HK2.out; have := HJ14.out; have := HK4.out; omega⟩, ⟨by (with_reducible repeat (first | apply Kd.R_alloc | apply Kd.R_drewN | apply Kd.R_drew)); exact HO_7.out⟩, ⟨by (with_reducible repeat (first | apply Kd.R_alloc | apply Kd.R_drewN | apply Kd.R_drew)); exact HO_108002.out⟩, ⟨by (with_reducible repeat (first | refine Zag ?_ _ | refine Zaj ?_ | refine Zaf ?_ _)); exact K01.out⟩, ⟨by (with_reducible repeat (first | refine Zag ?_ _ | refine Zaj ?_ | refine Zaf ?_ _)); exact K07.out⟩, ⟨by with_reducible repeat first | exact HB.out | apply Zac | apply Zaa | apply Zab | refine Zah ?_ E01.out | refine Zah ?_ E07.out⟩⟩
            ·rw [if_neg c20] at H
             exact absurd H (by simp)
           ·rw [if_neg c19] at H
            exact absurd H (by simp)
          ·rw [if_neg c18] at H
           exact absurd H (by simp)
         ·replace c17 := Bool.eq_false_iff.mpr c17
          subst c17
          have H1 : (if x10_2 = true then ((Zb6.f kj14 t102 t103 t104).bind fun t108 => (if x7_1.length < 8796093022208 then (Zap.l0 kj14 a1 a2 (x7_1 ++ [t108]) (wrap64 (x8_1 + 1)) a0_0 a0_1 l0_2) else (none))) else (Zap.l0 kj14 a1 a2 x7_1 (wrap64 (x8_1 + 1)) a0_0 a0_1 l0_2)) = some r := by rw [if_neg (show ¬ (false = true) by decide)] at H; exact H
          clear H
          have H := H1
          clear H1
          by_cases c30 : x10_2 = true
          ·subst c30
           have H1 : ((Zb6.f kj14 t102 t103 t104).bind fun t108 => (if x7_1.length < 8796093022208 then (Zap.l0 kj14 a1 a2 (x7_1 ++ [t108]) (wrap64 (x8_1 + 1)) a0_0 a0_1 l0_2) else (none))) = some r := by rw [if_pos rfl] at H; exact H
           clear H
           have H := H1
           clear H1
           replace H := Option.bind_eq_some_iff.mp H
           obtain ⟨t108, A310, H⟩ := H
           replace H : (if x7_1.length < 8796093022208 then (Zap.l0 kj14 a1 a2 (x7_1 ++ [t108]) (wrap64 (x8_1 + 1)) a0_0 a0_1 l0_2) else (none)) = some r := H
           have A31 := Zad.mk A310
           clear A310
           by_cases c32 : x7_1.length < 8796093022208
           ·rw [if_pos c32] at H
            have LMc32 := Zad.mk c32
            clear c32
            obtain ⟨y109, hy109⟩ : ∃ y_ : List ByteArray, y_ = (x7_1 ++ [t108]) := ⟨_, rfl⟩
            replace H : (Zap.l0 kj14 a1 a2 y109 (wrap64 (x8_1 + 1)) a0_0 a0_1 l0_2) = some r := by first | (rw [hy109]; with_reducible exact H) | (have H2_ := (Option.bind_some _ _).symm.trans H; rw [hy109]; with_reducible exact H2_) | (have H2_ := (Option.bind_some _ _).symm.trans H; with_reducible exact H2_) | with_reducible exact H | (rw [hy109]; exact H) | exact H
            have Ny109 := Zad.mk hy109
            clear hy109
            have H' := Zad.mk H
            clear H
            have hnb33 := N07_01.out
            have hnc33 := N01_07.out
            have hcz34_0 : wc.cell? ⟨g07, 0, none⟩ = some (.int .i64 t102) := (Zai K07.out 0).trans rfl
            have hcz34_1 : wc.cell? ⟨g07, 1, none⟩ = some (.int .i64 t103) := (Zai K07.out 1).trans rfl
            have hcz34_2 : wc.cell? ⟨g07, 2, none⟩ = some (.slice Ao14 t104.length co14) := (Zai K07.out 2).trans rfl
            have hfz34_0 := Zae K07.out 0
            have hfz34_1 := Zae K07.out 1
            have hfz34_2 := Zae K07.out 2
            go_wp2_with (first | ((with_reducible refine Zau (f := 66) rfl ?_); refine Zbr (some 54) rfl rfl Tryz.func66 (by kernel_rfl) rfl #[.agg #[.int .i64 t102, .int .i64 t103, .slice Ao14 t104.length co14]] rfl (by (try simp only [List.map_toArray, List.map_cons, List.map_nil]); first | done | rfl | (simp only [List.length_drop, List.length_take]; rfl)) ?_; (with_reducible refine (Zb6.calls kj14 t102 t103 _ _ t104 t108 _ ?side1 ?side2 A31.out).mono ?_); (case side1 => repeat (first | exact (Kd.R_reads' HO_108002.out).2.2 | (with_reducible refine Kd.C_alloc ?_ _) | (with_reducible refine Kd.C_drewN ?_ _) | (with_reducible refine Kd.C_drew ?_))); (case side2 => exact (Kd.R_reads' HO_108002.out).2.1); rintro e w35 ⟨rfl, hb⟩; refine ⟨_, rfl, ?_⟩; have n0_ := Zad.mk (Kd.R_below (by (with_reducible repeat (first | apply Kd.R_alloc | apply Kd.R_drewN | apply Kd.R_drew)); exact HO_7.out) hb); have n1_ := Zad.mk (Kd.R_below (by (with_reducible repeat (first | apply Kd.R_alloc | apply Kd.R_drewN | apply Kd.R_drew)); exact HO_108002.out) hb); have n2_ := Zad.mk (Zav (g := g01) (o := .cells #[.int .i64 a0_0, .int .i64 a0_1, .slice A0_2 l0_2.length c0_2] 52 (0, 0)) (by (with_reducible repeat (first | refine Zag ?_ _ | refine Zaj ?_ | refine Zaf ?_ _)); exact K01.out) hb); have n3_ := Zad.mk (Zav (g := g07) (o := .cells #[.int .i64 t102, .int .i64 t103, .slice Ao14 t104.length co14] 52 (0, 0)) (by (with_reducible repeat (first | refine Zag ?_ _ | refine Zaj ?_ | refine Zaf ?_ _)); exact K07.out) hb); have n4_ := Zad.mk (Zal (by with_reducible repeat first | exact HB.out | apply Zac | apply Zaa | apply Zab | refine Zah ?_ E01.out | refine Zah ?_ E07.out) hb); clear HO_7; clear HO_108002; clear K01; clear K07; clear HB; have HO_7 := n0_; have HO_108002 := n1_; have K01 := n2_; have K07 := n3_; have HB := n4_) | ((with_reducible refine Za9 (b := .append) (xs := #[.tmp 52, .tmp 55]) rfl ?_); at_builtin; refine Kd.R_append Kd.string (w0 := w) w.heap.size rfl (.tmp 52) (.tmp 55) 22 9 (.string ⟨#[]⟩) 16 rfl Tryz.underlying22 info9 rfl (by decide) (by omega) u7 x7_1 t108 [.string t108] (fun _ => True) (fun _ => False) rfl rfl ?aP (fun _ hk => hk.elim) ?aF ?aO ?aB ?aS ?aL ?_; (case aP => exact rfl); (case aB => exact (by with_reducible repeat first | exact HB.out | apply Zac | apply Zaa | apply Zab | refine Zah ?_ E01.out | refine Zah ?_ E07.out)); (case aF => exact (fun _ _ => trivial)); (case aO => exact (by (with_reducible repeat (first | apply Kd.R_alloc | apply Kd.R_drewN | apply Kd.R_drew)); exact HO_7.out)); (case aS => exact (Zak (by with_reducible repeat first | exact HB.out | apply Zac | apply Zaa | apply Zab | refine Zah ?_ E01.out | refine Zah ?_ E07.out))); (case aL => have := LMc32.out; omega); intro v110 w36 ho hb hg hat; rw [← Ny109.out] at ho; have n0_ := Zad.mk (Kd.R_over' (by (with_reducible repeat (first | apply Kd.R_alloc | apply Kd.R_drewN | apply Kd.R_drew)); exact HO_108002.out) (Kd.R_typed (by (with_reducible repeat (first | apply Kd.R_alloc | apply Kd.R_drewN | apply Kd.R_drew)); exact HO_7.out)) (by decide) hg); have n1_ := Zad.mk (Zbf (g := g01) (o := .cells #[.int .i64 a0_0, .int .i64 a0_1, .slice A0_2 l0_2.length c0_2] 52 (0, 0)) (by (with_reducible repeat (first | refine Zag ?_ _ | refine Zaj ?_ | refine Zaf ?_ _)); exact K01.out) hg (Kd.R_ne HO_7.out K01.out (by decide))); have n2_ := Zad.mk (Zbf (g := g07) (o := .cells #[.int .i64 t102, .int .i64 t103, .slice Ao14 t104.length co14] 52 (0, 0)) (by (with_reducible repeat (first | refine Zag ?_ _ | refine Zaj ?_ | refine Zaf ?_ _)); exact K07.out) hg (Kd.R_ne HO_7.out K07.out (by decide))); have n3_ := Zad.mk (hb); have n4_ := Zad.mk (ho); clear HO_108002; clear K01; clear K07; clear HB; clear HO_7; have HO_108002 := n0_; have K01 := n1_; have K07 := n2_; have HB := n3_; have HO111 := n4_; clear ho hb hg hat))
            go_roundg kj14
            case measure => have := HK1.out; have := HK2.out; have := HJ14.out; omega
            case rel => exact ⟨(y109), (wrap64 (x8_1 + 1)), (by first | rfl | (simp; done) | (simp [*]; done)), H', ⟨by have := HK1.out; have := HK2.out; have := HJ14.out; omega⟩, ⟨by (with_reducible repeat (first | apply Kd.R_alloc | apply Kd.R_drewN | apply Kd.R_drew)); exact HO111.out⟩, ⟨by (with_reducible repeat (first | refine Zag ?_ _ | refine Zaj ?_ | refine Zaf ?_ _)); exact K01.out⟩, ⟨by with_reducible repeat first | exact HB.out | apply Zac | apply Zaa | apply Zab | refine Zah ?_ E01.out | refine Zah ?_ E07.out⟩⟩
           ·rw [if_neg c32] at H
            exact absurd H (by simp)
          ·replace c30 := Bool.eq_false_iff.mpr c30
           subst c30
           have H1 : (Zap.l0 kj14 a1 a2 x7_1 (wrap64 (x8_1 + 1)) a0_0 a0_1 l0_2) = some r := by rw [if_neg (show ¬ (false = true) by decide)] at H; exact H
           clear H
           have H := H1
           clear H1
           have H' := Zad.mk H
           clear H
           go_wp2
           go_roundg kj14
           case measure => have := HK1.out; have := HK2.out; have := HJ14.out; omega
           case rel => exact ⟨(x7_1), (wrap64 (x8_1 + 1)), (by first | rfl | (simp; done) | (simp [*]; done)), H', ⟨by have := HK1.out; have := HK2.out; have := HJ14.out; omega⟩, ⟨by (with_reducible repeat (first | apply Kd.R_alloc | apply Kd.R_drewN | apply Kd.R_drew)); exact HO_7.out⟩, ⟨by (with_reducible repeat (first | refine Zag ?_ _ | refine Zaj ?_ | refine Zaf ?_ _)); exact K01.out⟩, ⟨by with_reducible repeat first | exact HB.out | apply Zac | apply Zaa | apply Zab | refine Zah ?_ E01.out | refine Zah ?_ E07.out⟩⟩
    ·rw [if_neg c7] at H
     have c7b0 : decide (x8_1 < (ji6)) = false := decide_eq_false c7
     clear c7
     obtain rfl := Option.some.inj H
     go_wp2
     go_ret
     exact ⟨_, by first | rfl | (simp [Zao, Zan] <;> rfl) | (simp only [← hji6]; first | rfl | (simp [Zao, Zan] <;> rfl)) | (simp [*, Zao, Zan] <;> rfl), by (with_reducible repeat (first | apply Kd.R_alloc | apply Kd.R_drewN | apply Kd.R_drew)); exact HO_7.out, by repeat (first | (with_reducible first | exact HB.out | apply Zac | apply Zaa | apply Zab | refine Zah ?_ E01.out) | exact HB.out)⟩
   ·rw [if_neg c5] at H
    exact absurd H (by simp)
mutual
def Zaw.l0 : Nat → List ByteArray → List ByteArray → Int → Int → Option (List ByteArray × Bool)
 | 0, _, _, _, _ => none
 | k + 1, x10, x31, x32, x33 => if x33 < x32 then (if 0 ≤ x33 then (if x33 < (x31.length : Int) then (Zaw.l1 k x10 (rdOf ByteArray.empty x31 x33) 0 x31 x32 x33) else (none)) else (none)) else (some (x10, true))
def Zaw.l1 : Nat → List ByteArray → ByteArray → Int → List ByteArray → Int → Int → Option (List ByteArray × Bool)
 | 0, _, _, _, _, _, _ => none
 | k + 1, x10, x12, x13, x31, x32, x33 => if x13 < (x10.length : Int) then (if 0 ≤ x13 then (if (Op.bytesLess ((rdOf ByteArray.empty x10 x13).toList) x12.toList) = true then (Zaw.l1 k x10 x12 (wrap64 (x13 + 1)) x31 x32 x33) else ((some (([] : List ByteArray) : List ByteArray)).bind fun y114 => (if x13 ≤ (x10.length : Int) then ((some (x10.take (x13 : Int).toNat : List ByteArray)).bind fun y117 => (if y114.length + y117.length < 8796093022208 then ((some (y114 ++ y117 : List ByteArray)).bind fun y121 => (if y121.length < 8796093022208 then ((some (y121 ++ [x12] : List ByteArray)).bind fun y124 => ((some (x10.drop (x13 : Int).toNat : List ByteArray)).bind fun y127 => (if y124.length + y127.length < 8796093022208 then (Zaw.l0 k (y124 ++ y127) x31 x32 (wrap64 (x33 + 1))) else (none)))) else (none))) else (none))) else (none)))) else (none)) else ((some (([] : List ByteArray) : List ByteArray)).bind fun y134 => (if 0 ≤ x13 then (if x13 ≤ (x10.length : Int) then ((some (x10.take (x13 : Int).toNat : List ByteArray)).bind fun y137 => (if y134.length + y137.length < 8796093022208 then ((some (y134 ++ y137 : List ByteArray)).bind fun y141 => (if y141.length < 8796093022208 then ((some (y141 ++ [x12] : List ByteArray)).bind fun y144 => ((some (x10.drop (x13 : Int).toNat : List ByteArray)).bind fun y147 => (if y144.length + y147.length < 8796093022208 then (Zaw.l0 k (y144 ++ y147) x31 x32 (wrap64 (x33 + 1))) else (none)))) else (none))) else (none))) else (none)) else (none)))
end
def Zaw.f (k : Nat) (a0 : ByteArray) (a1 : ByteArray) : Option (List ByteArray × Bool) := (Zbt.f k a0 a1).bind fun bt101 => (if bt101.2.2.2.2 = true then ((Zap.f k bt101.1 bt101.2.1 bt101.2.2.1 bt101.2.2.2.1 a1).bind fun t109 => (if (t109.length : Int) > 200 then (some (([] : List ByteArray), false)) else (Zaw.l0 k ([] : List ByteArray) t109 (t109.length : Int) 0))) else (some (([] : List ByteArray), false)))
set_option maxHeartbeats 8000000 in
set_option maxRecDepth 100000 in
theorem Zaw.calls (k : Nat) (a0 : ByteArray) (a1 : ByteArray) (r1 : List ByteArray) (r2 : Bool) (w : World) (h : Zaw.f k a0 a1 = some (r1, r2)) :
  Calls Tryz.prog 27 #[.string a0, .string a1] w fun e w' => ∃ v0_ : Value, e = .returned (.tuple #[v0_, .bool r2]) ∧ Kd.R Kd.string 9 w' w.heap.size (fun _ => True) v0_ r1 ∧ Below w.heap.size w w' := by
 have hu52 := Tryz.underlying52
 have HB := Zad.mk (Below.refl w.heap.size w)
 have H : ((Zbt.f k a0 a1).bind fun bt101 => (if bt101.2.2.2.2 = true then ((Zap.f k bt101.1 bt101.2.1 bt101.2.2.1 bt101.2.2.2.1 a1).bind fun t109 => (if (t109.length : Int) > 200 then (some (([] : List ByteArray), false)) else (Zaw.l0 k ([] : List ByteArray) t109 (t109.length : Int) 0))) else (some (([] : List ByteArray), false)))) = some (r1, r2) := h
 clear h
 replace H := Option.bind_eq_some_iff.mp H
 obtain ⟨⟨t101, t102, t103, t106, t107⟩, A30, H⟩ := H
 replace H : (if t107 = true then ((Zap.f k t101 t102 t103 t106 a1).bind fun t109 => (if (t109.length : Int) > 200 then (some (([] : List ByteArray), false)) else (Zaw.l0 k ([] : List ByteArray) t109 (t109.length : Int) 0))) else (some (([] : List ByteArray), false))) = some (r1, r2) := H
 have A3 := Zad.mk A30
 clear A30
 by_cases c4 : t107 = true
 ·subst c4
  have H1 : ((Zap.f k t101 t102 t103 t106 a1).bind fun t109 => (if (t109.length : Int) > 200 then (some (([] : List ByteArray), false)) else (Zaw.l0 k ([] : List ByteArray) t109 (t109.length : Int) 0))) = some (r1, r2) := by rw [if_pos rfl] at H; exact H
  clear H
  have H := H1
  clear H1
  replace H := Option.bind_eq_some_iff.mp H
  obtain ⟨t109, A50, H⟩ := H
  replace H : (if (t109.length : Int) > 200 then (some (([] : List ByteArray), false)) else (Zaw.l0 k ([] : List ByteArray) t109 (t109.length : Int) 0)) = some (r1, r2) := H
  have A5 := Zad.mk A50
  clear A50
  by_cases c6 : (t109.length : Int) > 200
  ·rw [if_pos c6] at H
   have c6b0 : decide (200 < (t109.length : Int)) = true := decide_eq_true c6
   have c6b1 : decide (200 < t109.length) = true := decide_eq_true (by omega)
   clear c6
   simp only [Option.some.injEq, Prod.mk.injEq] at H
   obtain ⟨rfl, rfl⟩ := H
   go_enter Tryz.func27, Tryz.ntmps27
   go_wp2_with (first | ((with_reducible refine Zau (f := 39) rfl ?_); refine Zbr (some 18) rfl rfl Tryz.func39 (by kernel_rfl) rfl #[.string a0, .string a1] rfl (by (try simp only [List.map_toArray, List.map_cons, List.map_nil]); first | done | rfl | (simp only [List.length_drop, List.length_take]; rfl)) ?_; (with_reducible refine (Zbt.calls k a0 a1 t101 t102 t103 t106 true _ A3.out).mono ?_); rintro e w7 ⟨v104, rfl, ho0, hb⟩; refine ⟨_, rfl, ?_⟩; have n0_ := Zad.mk (Kd.R_lower ho0 (Zak (by with_reducible repeat first | exact HB.out | apply Zac | apply Zaa | apply Zab))); have n1_ := Zad.mk (Zal (by with_reducible repeat first | exact HB.out | apply Zac | apply Zaa | apply Zab) hb); clear HB; have HO105 := n0_; have HB := n1_) | ((with_reducible refine Zay (N := 6) rfl ?_); refine Zaz ?hg (N := 6) ?hd (cs := #[.int .i64 0, .int .i64 0, .slice none 0 0]) (t := 52) ?hr ?_; (case hd => rfl); (case hg => rfl); (case hr => first | (go_simp; done) | (go_simp; rfl)); intro g08 hg w8 hbox hb; have n0_ := Zad.mk (Kd.R_below (by (with_reducible repeat (first | apply Kd.R_alloc | apply Kd.R_drewN | apply Kd.R_drew)); exact HO105.out) hb); have n1_ := Zad.mk (Zal (by with_reducible repeat first | exact HB.out | apply Zac | apply Zaa | apply Zab) hb); have n2_ := Zad.mk (hbox); have n3_ := Zad.mk ((by rw [hg]; exact (Zak (by with_reducible repeat first | exact HB.out | apply Zac | apply Zaa | apply Zab)) : w.heap.size ≤ g08)); have n4_ := n3_; clear HO105; clear HB; have HO105 := n0_; have HB := n1_; have K08 := n2_; have W08 := n3_; have E08 := n4_; clear hb hbox hg; have hcz9_0 : w8.cell? ⟨g08, 0, none⟩ = some (.int .i64 0) := (Zai K08.out 0).trans rfl; have hcz9_1 : w8.cell? ⟨g08, 1, none⟩ = some (.int .i64 0) := (Zai K08.out 1).trans rfl; have hcz9_2 : w8.cell? ⟨g08, 2, none⟩ = some (.slice none 0 0) := (Zai K08.out 2).trans rfl; have hfz9_0 := Zae K08.out 0; have hfz9_1 := Zae K08.out 1; have hfz9_2 := Zae K08.out 2; obtain ⟨Ao10, co10, eo10⟩ := Kd.R_slice HO105.out; subst eo10) | ((with_reducible refine Zau (f := 40) rfl ?_); refine Zbr (some 27) rfl rfl Tryz.func40 (by kernel_rfl) rfl #[.agg #[.int .i64 t101, .int .i64 t102, .slice Ao10 t103.length co10], .int .i64 t106, .string a1] rfl (by (try simp only [List.map_toArray, List.map_cons, List.map_nil]); first | done | rfl | (simp only [List.length_drop, List.length_take]; rfl)) ?_; (with_reducible refine (Zap.calls k t101 t102 _ _ t103 t106 a1 t109 _ ?side1 ?side2 A5.out).mono ?_); (case side1 => refine (Kd.R_reads' (e := 5) (base := w.heap.size) (ok := fun k_ => True) (n := t103.length) (c := co10) ?_).2.2; exact (by (with_reducible repeat (first | apply Kd.R_alloc | apply Kd.R_drewN | apply Kd.R_drew)); exact (Kd.R_mono (Kd.R_far (p := ⟨g08, 2, none⟩) (Kd.R_far (p := ⟨g08, 1, none⟩) (Kd.R_far (p := ⟨g08, 0, none⟩) (Kd.R_types HO105.out K08.out (by decide)) (fun _ hk => hk.2) (.int .i64 t101)) (fun _ hk => hk.2) (.int .i64 t102)) (fun _ hk => hk.2) (.slice Ao10 t103.length co10)) (fun _ h_ => h_.1)))); (case side2 => exact (Kd.R_reads' HO105.out).2.1); rintro e w11 ⟨v110, rfl, ho0, hb⟩; refine ⟨_, rfl, ?_⟩; have n0_ := Zad.mk (Kd.R_below (by (with_reducible repeat (first | apply Kd.R_alloc | apply Kd.R_drewN | apply Kd.R_drew)); exact (Kd.R_mono (Kd.R_far (p := ⟨g08, 2, none⟩) (Kd.R_far (p := ⟨g08, 1, none⟩) (Kd.R_far (p := ⟨g08, 0, none⟩) (Kd.R_types HO105.out K08.out (by decide)) (fun _ hk => hk.2) (.int .i64 t101)) (fun _ hk => hk.2) (.int .i64 t102)) (fun _ hk => hk.2) (.slice Ao10 t103.length co10)) (fun _ h_ => h_.1))) hb); have n1_ := Zad.mk (Kd.R_lower ho0 (Zak (by with_reducible repeat first | exact HB.out | apply Zac | apply Zaa | apply Zab | refine Zah ?_ E08.out))); have n2_ := Zad.mk (Zav (g := g08) (o := .cells #[.int .i64 t101, .int .i64 t102, .slice Ao10 t103.length co10] 52 (0, 0)) (by (with_reducible repeat (first | refine Zag ?_ _ | refine Zaj ?_ | refine Zaf ?_ _)); refine Za1 (cs := #[.int .i64 t101, .int .i64 t102, .slice none 0 0]) ?_ 2 _ rfl; (with_reducible repeat (first | refine Zag ?_ _ | refine Zaj ?_ | refine Zaf ?_ _)); refine Za1 (cs := #[.int .i64 t101, .int .i64 0, .slice none 0 0]) ?_ 1 _ rfl; (with_reducible repeat (first | refine Zag ?_ _ | refine Zaj ?_ | refine Zaf ?_ _)); refine Za1 (cs := #[.int .i64 0, .int .i64 0, .slice none 0 0]) ?_ 0 _ rfl; (with_reducible repeat (first | refine Zag ?_ _ | refine Zaj ?_ | refine Zaf ?_ _)); exact K08.out) hb); have n3_ := Zad.mk (Zal (by with_reducible repeat first | exact HB.out | apply Zac | apply Zaa | apply Zab | refine Zah ?_ E08.out) hb); clear HO105; clear K08; clear HB; have HO105 := n0_; have HO111 := n1_; have K08 := n2_; have HB := n3_; obtain ⟨Ao12, co12, eo12⟩ := Kd.R_slice HO111.out; subst eo12))
   go_ret2
   exact ⟨_, by first | rfl | (simp [Zao, Zan] <;> rfl) | (simp [*, Zao, Zan] <;> rfl), by first | exact Kd.R_nil _ _ _ _ _ | exact Kd.N_nil _ _ _ _ _ | exact Kd.V_nil _ _ _ _ _ | exact Kd.Q_nil _ _ _ _ _ | exact Kd.S_nil _ _ _ _ _, by repeat (first | (with_reducible first | exact HB.out | apply Zac | apply Zaa | apply Zab | refine Zah ?_ E08.out) | exact HB.out)⟩
  ·rw [if_neg c6] at H
   have c6b0 : decide (200 < (t109.length : Int)) = false := decide_eq_false c6
   have c6b1 : decide (200 < t109.length) = false := decide_eq_false (by omega)
   clear c6
   have H' := Zad.mk H
   clear H
   go_enter Tryz.func27, Tryz.ntmps27
   go_wp2_with (first | ((with_reducible refine Zau (f := 39) rfl ?_); refine Zbr (some 18) rfl rfl Tryz.func39 (by kernel_rfl) rfl #[.string a0, .string a1] rfl (by (try simp only [List.map_toArray, List.map_cons, List.map_nil]); first | done | rfl | (simp only [List.length_drop, List.length_take]; rfl)) ?_; (with_reducible refine (Zbt.calls k a0 a1 t101 t102 t103 t106 true _ A3.out).mono ?_); rintro e w13 ⟨v104, rfl, ho0, hb⟩; refine ⟨_, rfl, ?_⟩; have n0_ := Zad.mk (Kd.R_lower ho0 (Zak (by with_reducible repeat first | exact HB.out | apply Zac | apply Zaa | apply Zab))); have n1_ := Zad.mk (Zal (by with_reducible repeat first | exact HB.out | apply Zac | apply Zaa | apply Zab) hb); clear HB; have HO105 := n0_; have HB := n1_) | ((with_reducible refine Zay (N := 6) rfl ?_); refine Zaz ?hg (N := 6) ?hd (cs := #[.int .i64 0, .int .i64 0, .slice none 0 0]) (t := 52) ?hr ?_; (case hd => rfl); (case hg => rfl); (case hr => first | (go_simp; done) | (go_simp; rfl)); intro g08 hg w14 hbox hb; have n0_ := Zad.mk (Kd.R_below (by (with_reducible repeat (first | apply Kd.R_alloc | apply Kd.R_drewN | apply Kd.R_drew)); exact HO105.out) hb); have n1_ := Zad.mk (Zal (by with_reducible repeat first | exact HB.out | apply Zac | apply Zaa | apply Zab) hb); have n2_ := Zad.mk (hbox); have n3_ := Zad.mk ((by rw [hg]; exact (Zak (by with_reducible repeat first | exact HB.out | apply Zac | apply Zaa | apply Zab)) : w.heap.size ≤ g08)); have n4_ := n3_; clear HO105; clear HB; have HO105 := n0_; have HB := n1_; have K08 := n2_; have W08 := n3_; have E08 := n4_; clear hb hbox hg; have hcz15_0 : w14.cell? ⟨g08, 0, none⟩ = some (.int .i64 0) := (Zai K08.out 0).trans rfl; have hcz15_1 : w14.cell? ⟨g08, 1, none⟩ = some (.int .i64 0) := (Zai K08.out 1).trans rfl; have hcz15_2 : w14.cell? ⟨g08, 2, none⟩ = some (.slice none 0 0) := (Zai K08.out 2).trans rfl; have hfz15_0 := Zae K08.out 0; have hfz15_1 := Zae K08.out 1; have hfz15_2 := Zae K08.out 2; obtain ⟨Ao16, co16, eo16⟩ := Kd.R_slice HO105.out; subst eo16) | ((with_reducible refine Zau (f := 40) rfl ?_); refine Zbr (some 27) rfl rfl Tryz.func40 (by kernel_rfl) rfl #[.agg #[.int .i64 t101, .int .i64 t102, .slice Ao16 t103.length co16], .int .i64 t106, .string a1] rfl (by (try simp only [List.map_toArray, List.map_cons, List.map_nil]); first | done | rfl | (simp only [List.length_drop, List.length_take]; rfl)) ?_; (with_reducible refine (Zap.calls k t101 t102 _ _ t103 t106 a1 t109 _ ?side1 ?side2 A5.out).mono ?_); (case side1 => refine (Kd.R_reads' (e := 5) (base := w.heap.size) (ok := fun k_ => True) (n := t103.length) (c := co16) ?_).2.2; exact (by (with_reducible repeat (first | apply Kd.R_alloc | apply Kd.R_drewN | apply Kd.R_drew)); exact (Kd.R_mono (Kd.R_far (p := ⟨g08, 2, none⟩) (Kd.R_far (p := ⟨g08, 1, none⟩) (Kd.R_far (p := ⟨g08, 0, none⟩) (Kd.R_types HO105.out K08.out (by decide)) (fun _ hk => hk.2) (.int .i64 t101)) (fun _ hk => hk.2) (.int .i64 t102)) (fun _ hk => hk.2) (.slice Ao16 t103.length co16)) (fun _ h_ => h_.1)))); (case side2 => exact (Kd.R_reads' HO105.out).2.1); rintro e w17 ⟨v110, rfl, ho0, hb⟩; refine ⟨_, rfl, ?_⟩; have n0_ := Zad.mk (Kd.R_below (by (with_reducible repeat (first | apply Kd.R_alloc | apply Kd.R_drewN | apply Kd.R_drew)); exact (Kd.R_mono (Kd.R_far (p := ⟨g08, 2, none⟩) (Kd.R_far (p := ⟨g08, 1, none⟩) (Kd.R_far (p := ⟨g08, 0, none⟩) (Kd.R_types HO105.out K08.out (by decide)) (fun _ hk => hk.2) (.int .i64 t101)) (fun _ hk => hk.2) (.int .i64 t102)) (fun _ hk => hk.2) (.slice Ao16 t103.length co16)) (fun _ h_ => h_.1))) hb); have n1_ := Zad.mk (Kd.R_lower ho0 (Zak (by with_reducible repeat first | exact HB.out | apply Zac | apply Zaa | apply Zab | refine Zah ?_ E08.out))); have n2_ := Zad.mk (Zav (g := g08) (o := .cells #[.int .i64 t101, .int .i64 t102, .slice Ao16 t103.length co16] 52 (0, 0)) (by (with_reducible repeat (first | refine Zag ?_ _ | refine Zaj ?_ | refine Zaf ?_ _)); refine Za1 (cs := #[.int .i64 t101, .int .i64 t102, .slice none 0 0]) ?_ 2 _ rfl; (with_reducible repeat (first | refine Zag ?_ _ | refine Zaj ?_ | refine Zaf ?_ _)); refine Za1 (cs := #[.int .i64 t101, .int .i64 0, .slice none 0 0]) ?_ 1 _ rfl; (with_reducible repeat (first | refine Zag ?_ _ | refine Zaj ?_ | refine Zaf ?_ _)); refine Za1 (cs := #[.int .i64 0, .int .i64 0, .slice none 0 0]) ?_ 0 _ rfl; (with_reducible repeat (first | refine Zag ?_ _ | refine Zaj ?_ | refine Zaf ?_ _)); exact K08.out) hb); have n3_ := Zad.mk (Zal (by with_reducible repeat first | exact HB.out | apply Zac | apply Zaa | apply Zab | refine Zah ?_ E08.out) hb); clear HO105; clear K08; clear HB; have HO105 := n0_; have HO111 := n1_; have K08 := n2_; have HB := n3_; obtain ⟨Ao18, co18, eo18⟩ := Kd.R_slice HO111.out; subst eo18))
   go_loopg [10, 33] k (fun kq v10 v33 w' => ∃ (x10_1 : List ByteArray) (x33_1 : Int), v33 = .int .i64 x33_1 ∧ Zad (Zaw.l0 kq x10_1 t109 (t109.length : Int) x33_1 = some (r1, r2)) ∧ Zad (kq ≤ k) ∧ Zad (Kd.R Kd.string 9 w' w.heap.size (fun k_ => some k_ ≠ ((.slice Ao18 t109.length co18) : Value).ownBlock) v10 x10_1) ∧ Zad (Kd.R Kd.string 9 w' w.heap.size (fun k_ => some k_ ≠ (v10 : Value).ownBlock) (.slice Ao18 t109.length co18) t109) ∧ Zad (Kd.R (Kd.int .u8) 5 w' w.heap.size (fun _ => True) (.slice Ao16 t103.length co16) t103) ∧ Zad (w'.heap[g08]? = some (.cells #[.int .i64 t101, .int .i64 t102, (.slice Ao16 t103.length co16)] 52 (0, 0))) ∧ Zad (Below w.heap.size w w'))
   case atStart => exact ⟨(([] : List ByteArray)), (0), (by first | rfl | (simp; done) | (simp [*]; done)), H', ⟨Nat.le_refl _⟩, ⟨by first | exact Kd.R_nil _ _ _ _ _ | exact Kd.N_nil _ _ _ _ _ | exact Kd.V_nil _ _ _ _ _ | exact Kd.Q_nil _ _ _ _ _ | exact Kd.S_nil _ _ _ _ _⟩, ⟨by (with_reducible repeat (first | apply Kd.R_alloc | apply Kd.R_drewN | apply Kd.R_drew)); exact Kd.R_mono HO111.out (fun _ hk => (by simp [Value.ownBlock]))⟩, ⟨by (with_reducible repeat (first | apply Kd.R_alloc | apply Kd.R_drewN | apply Kd.R_drew)); exact HO105.out⟩, ⟨by (with_reducible repeat (first | refine Zag ?_ _ | refine Zaj ?_ | refine Zaf ?_ _)); exact K08.out⟩, ⟨by with_reducible repeat first | exact HB.out | apply Zac | apply Zaa | apply Zab | refine Zah ?_ E08.out⟩⟩
   case round =>
    clear H'
    obtain ⟨x10_1, x33_1, rfl, HA, HK1, HO_10, HO_31, HO_109002, K08, HB⟩ := hrel
    cases gk with
    | zero => exact absurd HA.out (by simp [Zaw.l0])
    | succ k1 =>
     have H := HA.out
     clear HA
     simp only [Zaw.l0] at H
     by_cases c19 : x33_1 < (t109.length : Int)
     ·rw [if_pos c19] at H
      have c19b0 : decide (x33_1 < (t109.length : Int)) = true := decide_eq_true c19
      clear c19
      by_cases c20 : 0 ≤ x33_1
      ·rw [if_pos c20] at H
       have c20b0 : decide (0 ≤ x33_1) = true := decide_eq_true c20
       clear c20
       by_cases c21 : x33_1 < (t109.length : Int)
       ·rw [if_pos c21] at H
        have c21b0 : decide (x33_1 < (t109.length : Int)) = true := decide_eq_true c21
        clear c21
        have H' := Zad.mk H
        clear H
        have p112 : 0 ≤ (x33_1 : Int) := of_decide_eq_true (by first | (with_reducible assumption) | assumption)
        have q112 : x33_1 < (t109.length : Int) := of_decide_eq_true (by first | (with_reducible assumption) | assumption)
        obtain ⟨ad112, e112, hx112_0⟩ := Kd.at_string (Kd.R_reads' HO_31.out).2.2 x33_1 p112 q112
        cases e112
        replace p112 := eq_true p112
        replace q112 := eq_true q112
        go_wp2
        go_loopg [13] k1 (fun kq v13 w' => ∃ (x13_2 : Int), v13 = .int .i64 x13_2 ∧ Zad (Zaw.l1 kq x10_1 (rdOf ByteArray.empty t109 x33_1) x13_2 t109 (t109.length : Int) x33_1 = some (r1, r2)) ∧ Zad (kq ≤ k1) ∧ Zad (Kd.R Kd.string 9 w' w.heap.size (fun k_ => some k_ ≠ ((.slice (some ad112) t109.length co18) : Value).ownBlock) u10 x10_1) ∧ Zad (Kd.R Kd.string 9 w' w.heap.size (fun k_ => some k_ ≠ (u10 : Value).ownBlock) (.slice (some ad112) t109.length co18) t109) ∧ Zad (Kd.R (Kd.int .u8) 5 w' w.heap.size (fun _ => True) (.slice Ao16 t103.length co16) t103) ∧ Zad (w'.heap[g08]? = some (.cells #[.int .i64 t101, .int .i64 t102, (.slice Ao16 t103.length co16)] 52 (0, 0))) ∧ Zad (Below w.heap.size w w'))
        case atStart => exact ⟨(0), (by first | rfl | (simp; done) | (simp [*]; done)), H', ⟨Nat.le_refl _⟩, ⟨by (with_reducible repeat (first | apply Kd.R_alloc | apply Kd.R_drewN | apply Kd.R_drew)); exact HO_10.out⟩, ⟨by (with_reducible repeat (first | apply Kd.R_alloc | apply Kd.R_drewN | apply Kd.R_drew)); exact HO_31.out⟩, ⟨by (with_reducible repeat (first | apply Kd.R_alloc | apply Kd.R_drewN | apply Kd.R_drew)); exact HO_109002.out⟩, ⟨by (with_reducible repeat (first | refine Zag ?_ _ | refine Zaj ?_ | refine Zaf ?_ _)); exact K08.out⟩, ⟨by with_reducible repeat first | exact HB.out | apply Zac | apply Zaa | apply Zab | refine Zah ?_ E08.out⟩⟩
        case round =>
         clear H'
         obtain ⟨x13_2, rfl, HA, HK2, HO_10, HO_31, HO_109002, K08, HB⟩ := hrel
         cases gk with
         | zero => exact absurd HA.out (by simp [Zaw.l1])
         | succ k2 =>
          have H := HA.out
          clear HA
          simp only [Zaw.l1] at H
          by_cases c22 : x13_2 < (x10_1.length : Int)
          ·rw [if_pos c22] at H
           have c22b0 : decide (x13_2 < (x10_1.length : Int)) = true := decide_eq_true c22
           clear c22
           by_cases c23 : 0 ≤ x13_2
           ·rw [if_pos c23] at H
            have c23b0 : decide (0 ≤ x13_2) = true := decide_eq_true c23
            clear c23
            by_cases c24 : (Op.bytesLess ((rdOf ByteArray.empty x10_1 x13_2).toList) (rdOf ByteArray.empty t109 x33_1).toList) = true
            ·rw [if_pos c24] at H
             have c24b0 : (Op.bytesLess ((rdOf ByteArray.empty x10_1 x13_2).toList) (rdOf ByteArray.empty t109 x33_1).toList) = true := c24
             clear c24
             have H' := Zad.mk H
             clear H
             obtain ⟨Ao25, co25, eo25⟩ := Kd.R_slice HO_10.out
             subst eo25
             have p113 : 0 ≤ (x13_2 : Int) := of_decide_eq_true (by first | (with_reducible assumption) | assumption)
             have q113 : x13_2 < (x10_1.length : Int) := of_decide_eq_true (by first | (with_reducible assumption) | assumption)
             obtain ⟨ad113, e113, hx113_0⟩ := Kd.at_string (Kd.R_reads' HO_10.out).2.2 x13_2 p113 q113
             cases e113
             replace p113 := eq_true p113
             replace q113 := eq_true q113
             go_wp2
             go_roundg k2
             case measure => have := HK1.out; have := HK2.out; omega
             case rel => exact ⟨(wrap64 (x13_2 + 1)), (by first | rfl | (simp; done) | (simp [*]; done)), H', ⟨by have := HK1.out; have := HK2.out; omega⟩, ⟨by (with_reducible repeat (first | apply Kd.R_alloc | apply Kd.R_drewN | apply Kd.R_drew)); exact HO_10.out⟩, ⟨by (with_reducible repeat (first | apply Kd.R_alloc | apply Kd.R_drewN | apply Kd.R_drew)); exact HO_31.out⟩, ⟨by (with_reducible repeat (first | apply Kd.R_alloc | apply Kd.R_drewN | apply Kd.R_drew)); exact HO_109002.out⟩, ⟨by (with_reducible repeat (first | refine Zag ?_ _ | refine Zaj ?_ | refine Zaf ?_ _)); exact K08.out⟩, ⟨by with_reducible repeat first | exact HB.out | apply Zac | apply Zaa | apply Zab | refine Zah ?_ E08.out⟩⟩
            ·rw [if_neg c24] at H
             have c24b0 : (Op.bytesLess ((rdOf ByteArray.empty x10_1 x13_2).toList) (rdOf ByteArray.empty t109 x33_1).toList) = false := by simpa using c24
             clear c24
             obtain ⟨y114, hy114⟩ : ∃ y_ : List ByteArray, y_ = (([] : List ByteArray)) := ⟨_, rfl⟩
             replace H : (if x13_2 ≤ (x10_1.length : Int) then ((some (x10_1.take (x13_2 : Int).toNat : List ByteArray)).bind fun y117 => (if y114.length + y117.length < 8796093022208 then ((some (y114 ++ y117 : List ByteArray)).bind fun y121 => (if y121.length < 8796093022208 then ((some (y121 ++ [(rdOf ByteArray.empty t109 x33_1)] : List ByteArray)).bind fun y124 => ((some (x10_1.drop (x13_2 : Int).toNat : List ByteArray)).bind fun y127 => (if y124.length + y127.length < 8796093022208 then (Zaw.l0 k2 (y124 ++ y127) t109 (t109.length : Int) (wrap64 (x33_1 + 1))) else (none)))) else (none))) else (none))) else (none)) = some (r1, r2) := by first | (rw [hy114]; with_reducible exact H) | (have H2_ := (Option.bind_some _ _).symm.trans H; rw [hy114]; with_reducible exact H2_) | (have H2_ := (Option.bind_some _ _).symm.trans H; with_reducible exact H2_) | with_reducible exact H | (rw [hy114]; exact H) | exact H
             have Ny114 := Zad.mk hy114
             clear hy114
             have c26b0 := eq_true (of_decide_eq_true (by first | (with_reducible assumption) | assumption) : 0 ≤ x13_2)
             by_cases c27 : x13_2 ≤ (x10_1.length : Int)
             ·rw [if_pos c27] at H
              have c27b0 := eq_true c27
              have c27b1 : decide (x13_2 ≤ (x10_1.length : Int)) = true := decide_eq_true c27
              clear c27
              obtain ⟨y117, hy117⟩ : ∃ y_ : List ByteArray, y_ = (x10_1.take (x13_2 : Int).toNat) := ⟨_, rfl⟩
              replace H : (if y114.length + y117.length < 8796093022208 then ((some (y114 ++ y117 : List ByteArray)).bind fun y121 => (if y121.length < 8796093022208 then ((some (y121 ++ [(rdOf ByteArray.empty t109 x33_1)] : List ByteArray)).bind fun y124 => ((some (x10_1.drop (x13_2 : Int).toNat : List ByteArray)).bind fun y127 => (if y124.length + y127.length < 8796093022208 then (Zaw.l0 k2 (y124 ++ y127) t109 (t109.length : Int) (wrap64 (x33_1 + 1))) else (none)))) else (none))) else (none)) = some (r1, r2) := by first | (rw [hy117]; with_reducible exact H) | (have H2_ := (Option.bind_some _ _).symm.trans H; rw [hy117]; with_reducible exact H2_) | (have H2_ := (Option.bind_some _ _).symm.trans H; with_reducible exact H2_) | with_reducible exact H | (rw [hy117]; exact H) | exact H
              have Ny117 := Zad.mk hy117
              clear hy117
              by_cases c28 : y114.length + y117.length < 8796093022208
              ·rw [if_pos c28] at H
               have LMc28 := Zad.mk c28
               clear c28
               obtain ⟨y121, hy121⟩ : ∃ y_ : List ByteArray, y_ = (y114 ++ y117) := ⟨_, rfl⟩
               replace H : (if y121.length < 8796093022208 then ((some (y121 ++ [(rdOf ByteArray.empty t109 x33_1)] : List ByteArray)).bind fun y124 => ((some (x10_1.drop (x13_2 : Int).toNat : List ByteArray)).bind fun y127 => (if y124.length + y127.length < 8796093022208 then (Zaw.l0 k2 (y124 ++ y127) t109 (t109.length : Int) (wrap64 (x33_1 + 1))) else (none)))) else (none)) = some (r1, r2) := by first | (rw [hy121]; with_reducible exact H) | (have H2_ := (Option.bind_some _ _).symm.trans H; rw [hy121]; with_reducible exact H2_) | (have H2_ := (Option.bind_some _ _).symm.trans H; with_reducible exact H2_) | with_reducible exact H | (rw [hy121]; exact H) | exact H
               have Ny121 := Zad.mk hy121
               clear hy121
               by_cases c29 : y121.length < 8796093022208
               ·rw [if_pos c29] at H
                have LMc29 := Zad.mk c29
                clear c29
                obtain ⟨y124, hy124⟩ : ∃ y_ : List ByteArray, y_ = (y121 ++ [(rdOf ByteArray.empty t109 x33_1)]) := ⟨_, rfl⟩
                replace H : ((some (x10_1.drop (x13_2 : Int).toNat : List ByteArray)).bind fun y127 => (if y124.length + y127.length < 8796093022208 then (Zaw.l0 k2 (y124 ++ y127) t109 (t109.length : Int) (wrap64 (x33_1 + 1))) else (none))) = some (r1, r2) := by first | (rw [hy124]; with_reducible exact H) | (have H2_ := (Option.bind_some _ _).symm.trans H; rw [hy124]; with_reducible exact H2_) | (have H2_ := (Option.bind_some _ _).symm.trans H; with_reducible exact H2_) | with_reducible exact H | (rw [hy124]; exact H) | exact H
                have Ny124 := Zad.mk hy124
                clear hy124
                have c30b0 := eq_true (of_decide_eq_true (by first | (with_reducible assumption) | assumption) : 0 ≤ x13_2)
                have c31b0 := eq_true (of_decide_eq_true (by first | (with_reducible assumption) | assumption) : x13_2 ≤ (x10_1.length : Int))
                obtain ⟨y127, hy127⟩ : ∃ y_ : List ByteArray, y_ = (x10_1.drop (x13_2 : Int).toNat) := ⟨_, rfl⟩
                replace H : (if y124.length + y127.length < 8796093022208 then (Zaw.l0 k2 (y124 ++ y127) t109 (t109.length : Int) (wrap64 (x33_1 + 1))) else (none)) = some (r1, r2) := by first | (rw [hy127]; with_reducible exact H) | (have H2_ := (Option.bind_some _ _).symm.trans H; rw [hy127]; with_reducible exact H2_) | (have H2_ := (Option.bind_some _ _).symm.trans H; with_reducible exact H2_) | with_reducible exact H | (rw [hy127]; exact H) | exact H
                have Ny127 := Zad.mk hy127
                clear hy127
                by_cases c32 : y124.length + y127.length < 8796093022208
                ·rw [if_pos c32] at H
                 have LMc32 := Zad.mk c32
                 clear c32
                 obtain ⟨y131, hy131⟩ : ∃ y_ : List ByteArray, y_ = (y124 ++ y127) := ⟨_, rfl⟩
                 replace H : (Zaw.l0 k2 y131 t109 (t109.length : Int) (wrap64 (x33_1 + 1))) = some (r1, r2) := by first | (rw [hy131]; with_reducible exact H) | (have H2_ := (Option.bind_some _ _).symm.trans H; rw [hy131]; with_reducible exact H2_) | (have H2_ := (Option.bind_some _ _).symm.trans H; with_reducible exact H2_) | with_reducible exact H | (rw [hy131]; exact H) | exact H
                 have Ny131 := Zad.mk hy131
                 clear hy131
                 have H' := Zad.mk H
                 clear H
                 obtain ⟨Ao33, co33, eo33⟩ := Kd.R_slice HO_10.out
                 subst eo33
                 have p113 : 0 ≤ (x13_2 : Int) := of_decide_eq_true (by first | (with_reducible assumption) | assumption)
                 have q113 : x13_2 < (x10_1.length : Int) := of_decide_eq_true (by first | (with_reducible assumption) | assumption)
                 obtain ⟨ad113, e113, hx113_0⟩ := Kd.at_string (Kd.R_reads' HO_10.out).2.2 x13_2 p113 q113
                 cases e113
                 replace p113 := eq_true p113
                 replace q113 := eq_true q113
                 go_wp2_with (first | ((with_reducible refine Zay (N := 51) rfl ?_); refine Kd.R_lit Kd.string _ 9 ?hg (N := 51) ?hd (xs := ([] : List ByteArray)) (inner := []) (ok := fun _ => True) (okp := fun _ => True) ?hr ?hp (fun _ hk => hk) trivial (Below.refl _ _) (Nat.le_refl _) (by simp) ?_; (case hd => rfl); (case hg => rfl); (case hr => first | (go_simp; done) | (go_simp; rfl)); (case hp => exact (Reps.none _ _)); intro v115 w34 ho35 hb hg_ hnew_; clear hg_ hnew_; (first | rw [← Ny114.out] at ho35 | (simp only [Int.reduceToNat] at ho35; rw [← Ny114.out] at ho35)); have n0_ := Zad.mk (Kd.R_elder' (by (with_reducible repeat (first | apply Kd.R_alloc | apply Kd.R_drewN | apply Kd.R_drew)); exact HO_10.out) (Kd.R_base ho35) hb); have n1_ := Zad.mk (Kd.R_elder' (by (with_reducible repeat (first | apply Kd.R_alloc | apply Kd.R_drewN | apply Kd.R_drew)); exact HO_31.out) (Kd.R_base ho35) hb); have n2_ := Zad.mk (Kd.R_below (by (with_reducible repeat (first | apply Kd.R_alloc | apply Kd.R_drewN | apply Kd.R_drew)); exact HO_109002.out) hb); have n3_ := Zad.mk (Kd.R_lower (Kd.R_new' (Kd.R_new' ho35 (Kd.R_lt (by (with_reducible repeat (first | apply Kd.R_alloc | apply Kd.R_drewN | apply Kd.R_drew)); exact HO_10.out))) (Kd.R_lt (by (with_reducible repeat (first | apply Kd.R_alloc | apply Kd.R_drewN | apply Kd.R_drew)); exact HO_31.out))) (Zak (by with_reducible repeat first | exact HB.out | apply Zac | apply Zaa | apply Zab | refine Zah ?_ E08.out))); have n4_ := Zad.mk (Zav (g := g08) (o := .cells #[.int .i64 t101, .int .i64 t102, .slice Ao16 t103.length co16] 52 (0, 0)) (by (with_reducible repeat (first | refine Zag ?_ _ | refine Zaj ?_ | refine Zaf ?_ _)); exact K08.out) hb); have n5_ := Zad.mk (Zal (by with_reducible repeat first | exact HB.out | apply Zac | apply Zaa | apply Zab | refine Zah ?_ E08.out) hb); clear HO_10; clear HO_31; clear HO_109002; clear K08; clear HB; have HO_10 := n0_; have HO_31 := n1_; have HO_109002 := n2_; have HO116 := n3_; have K08 := n4_; have HB := n5_; clear hb ho35; have q36 : (x13_2 : Int) ≤ ((x10_1.length : Int) : Int) := of_decide_eq_true (by first | (with_reducible assumption) | assumption); obtain ⟨i036, hi036, _, hsz36, _⟩ := info_parts info9; have hroom36 : x10_1.length ≤ co33 := (Kd.R_reads' HO_10.out).2.1; have hC36 : Kd.C Kd.string _ (some ad113) x10_1.length x10_1 := (Kd.R_reads' HO_10.out).2.2; have hcut36 := Zg7 (P := Tryz.prog) 22 9 .i64 Tryz.underlying22 hi036 (some ad113) x10_1.length co33 x13_2 (of_decide_eq_true (by first | (with_reducible assumption) | assumption)) q36 hroom36; have hr36 := Kd.C_take (m := (x13_2 : Int).toNat) hC36 (by omega); have hy36 : y117.length = (x13_2 : Int).toNat := (by rw [Ny117.out, List.length_take]; omega); rw [← Ny117.out] at hr36; rw [← hy36] at hcut36; have HR120 := Zad.mk hr36; have HC120 := Zad.mk (show y117.length ≤ co33 from by omega); clear hr36 hC36 hroom36 hi036 hsz36; have KY36 := Zad.mk hy36; clear hy36; have KL36 := Zad.mk (show (x13_2 : Int).toNat ≤ x10_1.length from by omega); replace q36 := eq_true q36) | ((with_reducible refine Za9 (b := .append) (xs := #[.tmp 51, .tmp 54]) rfl ?_); at_builtin; refine Kd.R_append_rows Kd.string (w0 := w) w.heap.size rfl (.tmp 51) (.tmp 54) 22 9 (.string ⟨#[]⟩) 16 rfl Tryz.underlying22 info9 rfl (by decide) (by omega) v115 y114 y117 _ _ _ (fun k_ => some k_ ≠ (.slice (some ad113) x10_1.length co33 : Value).ownBlock ∧ some k_ ≠ (.slice (some ad112) t109.length co18 : Value).ownBlock) (fun _ => False) rfl rfl ?aO ?aR (fun _ _ h => h) (fun _ h => h.elim) ?aF ?aB ?aS ?aL ?_; (case aR => repeat (first | exact (by repeat (first | (with_reducible exact HR120.out) | (with_reducible refine Kd.C_alloc ?_ _) | (with_reducible refine Kd.C_drewN ?_ _) | (with_reducible refine Kd.C_drew ?_) | exact HR120.out)) | (with_reducible refine Kd.C_alloc ?_ _) | (with_reducible refine Kd.C_drewN ?_ _) | (with_reducible refine Kd.C_drew ?_))); (case aB => exact (by with_reducible repeat first | exact HB.out | apply Zac | apply Zaa | apply Zab | refine Zah ?_ E08.out)); (case aF => exact (fun k_ hk => ⟨Kd.fresh' (Kd.R_lt (by (with_reducible repeat (first | apply Kd.R_alloc | apply Kd.R_drewN | apply Kd.R_drew)); exact HO_10.out)) k_ hk, Kd.fresh' (Kd.R_lt (by (with_reducible repeat (first | apply Kd.R_alloc | apply Kd.R_drewN | apply Kd.R_drew)); exact HO_31.out)) k_ hk⟩)); (case aO => exact (by (with_reducible repeat (first | apply Kd.R_alloc | apply Kd.R_drewN | apply Kd.R_drew)); exact Kd.R_mono HO116.out (fun _ hk => ⟨hk.1.2, hk.2⟩))); (case aS => exact (Zak (by with_reducible repeat first | exact HB.out | apply Zac | apply Zaa | apply Zab | refine Zah ?_ E08.out))); (case aL => have := LMc28.out; omega); intro v122 w37 ho hb hg hat; rw [← Ny121.out] at ho; have n0_ := Zad.mk (Kd.R_after (ok := (fun k_ => some k_ ≠ (.slice (some ad112) t109.length co18 : Value).ownBlock)) (by (with_reducible repeat (first | apply Kd.R_alloc | apply Kd.R_drewN | apply Kd.R_drew)); exact HO_10.out) hg hat); have n1_ := Zad.mk (Kd.R_after (ok := (fun k_ => some k_ ≠ (.slice (some ad113) x10_1.length co33 : Value).ownBlock)) (by (with_reducible repeat (first | apply Kd.R_alloc | apply Kd.R_drewN | apply Kd.R_drew)); exact HO_31.out) hg hat); have n2_ := Zad.mk (Kd.R_over' (by (with_reducible repeat (first | apply Kd.R_alloc | apply Kd.R_drewN | apply Kd.R_drew)); exact HO_109002.out) (Kd.R_typed (by (with_reducible repeat (first | apply Kd.R_alloc | apply Kd.R_drewN | apply Kd.R_drew)); exact HO116.out)) (by decide) hg); have n3_ := Zad.mk (Zbf (g := g08) (o := .cells #[.int .i64 t101, .int .i64 t102, .slice Ao16 t103.length co16] 52 (0, 0)) (by (with_reducible repeat (first | refine Zag ?_ _ | refine Zaj ?_ | refine Zaf ?_ _)); exact K08.out) hg (Kd.R_ne HO116.out K08.out (by decide))); have n4_ := Zad.mk (hb); have n5_ := Zad.mk ((show Kd.C Kd.string w37 (some ad113) y117.length y117 from by rw [Ny117.out]; exact Kd.C_take (m := (x13_2 : Int).toNat) ((Kd.R_reads' (Kd.R_after (ok := (fun k_ => some k_ ≠ (.slice (some ad112) t109.length co18 : Value).ownBlock)) (by (with_reducible repeat (first | apply Kd.R_alloc | apply Kd.R_drewN | apply Kd.R_drew)); exact HO_10.out) hg hat)).2.2) KL36.out)); have n6_ := Zad.mk (ho); clear HO_10; clear HO_31; clear HO_109002; clear K08; clear HB; clear HR120; clear HO116; have HO_10 := n0_; have HO_31 := n1_; have HO_109002 := n2_; have K08 := n3_; have HB := n4_; have HR120 := n5_; have HO123 := n6_; clear ho hb hg hat) | ((with_reducible refine Za9 (b := .append) (xs := #[.tmp 55, .tmp 57]) rfl ?_); at_builtin; refine Kd.R_append Kd.string (w0 := w) w.heap.size rfl (.tmp 55) (.tmp 57) 22 9 (.string ⟨#[]⟩) 16 rfl Tryz.underlying22 info9 rfl (by decide) (by omega) v122 y121 (rdOf ByteArray.empty t109 x33_1) [.string (rdOf ByteArray.empty t109 x33_1)] (fun k_ => some k_ ≠ (.slice (some ad113) x10_1.length co33 : Value).ownBlock ∧ some k_ ≠ (.slice (some ad112) t109.length co18 : Value).ownBlock) (fun _ => False) rfl rfl ?aP (fun _ hk => hk.elim) ?aF ?aO ?aB ?aS ?aL ?_; (case aP => exact rfl); (case aB => exact (by with_reducible repeat first | exact HB.out | apply Zac | apply Zaa | apply Zab | refine Zah ?_ E08.out)); (case aF => exact (fun k_ hk => ⟨Kd.fresh' (Kd.R_lt (by (with_reducible repeat (first | apply Kd.R_alloc | apply Kd.R_drewN | apply Kd.R_drew)); exact HO_10.out)) k_ hk, Kd.fresh' (Kd.R_lt (by (with_reducible repeat (first | apply Kd.R_alloc | apply Kd.R_drewN | apply Kd.R_drew)); exact HO_31.out)) k_ hk⟩)); (case aO => exact (by (with_reducible repeat (first | apply Kd.R_alloc | apply Kd.R_drewN | apply Kd.R_drew)); exact HO123.out)); (case aS => exact (Zak (by with_reducible repeat first | exact HB.out | apply Zac | apply Zaa | apply Zab | refine Zah ?_ E08.out))); (case aL => have := LMc29.out; omega); intro v125 w38 ho hb hg hat; rw [← Ny124.out] at ho; have n0_ := Zad.mk (Kd.R_after (ok := (fun k_ => some k_ ≠ (.slice (some ad112) t109.length co18 : Value).ownBlock)) (by (with_reducible repeat (first | apply Kd.R_alloc | apply Kd.R_drewN | apply Kd.R_drew)); exact HO_10.out) hg hat); have n1_ := Zad.mk (Kd.R_after (ok := (fun k_ => some k_ ≠ (.slice (some ad113) x10_1.length co33 : Value).ownBlock)) (by (with_reducible repeat (first | apply Kd.R_alloc | apply Kd.R_drewN | apply Kd.R_drew)); exact HO_31.out) hg hat); have n2_ := Zad.mk (Kd.R_over' (by (with_reducible repeat (first | apply Kd.R_alloc | apply Kd.R_drewN | apply Kd.R_drew)); exact HO_109002.out) (Kd.R_typed (by (with_reducible repeat (first | apply Kd.R_alloc | apply Kd.R_drewN | apply Kd.R_drew)); exact HO123.out)) (by decide) hg); have n3_ := Zad.mk (Zbf (g := g08) (o := .cells #[.int .i64 t101, .int .i64 t102, .slice Ao16 t103.length co16] 52 (0, 0)) (by (with_reducible repeat (first | refine Zag ?_ _ | refine Zaj ?_ | refine Zaf ?_ _)); exact K08.out) hg (Kd.R_ne HO123.out K08.out (by decide))); have n4_ := Zad.mk (hb); have n5_ := Zad.mk ((show Kd.C Kd.string w38 (some ad113) y117.length y117 from by rw [Ny117.out]; exact Kd.C_take (m := (x13_2 : Int).toNat) ((Kd.R_reads' (Kd.R_after (ok := (fun k_ => some k_ ≠ (.slice (some ad112) t109.length co18 : Value).ownBlock)) (by (with_reducible repeat (first | apply Kd.R_alloc | apply Kd.R_drewN | apply Kd.R_drew)); exact HO_10.out) hg hat)).2.2) KL36.out)); have n6_ := Zad.mk (ho); clear HO_10; clear HO_31; clear HO_109002; clear K08; clear HB; clear HR120; clear HO123; have HO_10 := n0_; have HO_31 := n1_; have HO_109002 := n2_; have K08 := n3_; have HB := n4_; have HR120 := n5_; have HO126 := n6_; clear ho hb hg hat; have q39 : (x13_2 : Int) ≤ ((x10_1.length : Int) : Int) := of_decide_eq_true (by first | (with_reducible assumption) | assumption); obtain ⟨i039, hi039, _, hsz39, _⟩ := info_parts info9; have hroom39 : x10_1.length ≤ co33 := (Kd.R_reads' HO_10.out).2.1; have hC39 : Kd.C Kd.string _ (some ad113) x10_1.length x10_1 := (Kd.R_reads' HO_10.out).2.2; have q039 : (0 : Int) ≤ (x13_2 : Int) := of_decide_eq_true (by first | (with_reducible assumption) | assumption); have hcut39 := Zgh (P := Tryz.prog) 22 9 .i64 Tryz.underlying22 hi039 1 hsz39 (some ad113) x10_1.length co33 x13_2 q039 q39; have hr39 := Kd.C_drop (m := (x13_2 : Int).toNat) (c := co33) hC39 (by omega) hroom39; obtain ⟨A39, hA39⟩ : ∃ A1, A1 = (if co33 = (x13_2 : Int).toNat then (some ad113) else ((some ad113) : Option Addr).map (·.add ((x13_2 : Int).toNat * 1))) := ⟨_, rfl⟩; obtain ⟨c39, hc39⟩ : ∃ c1, c1 = co33 - (x13_2 : Int).toNat := ⟨_, rfl⟩; have hy39 : y127.length = x10_1.length - (x13_2 : Int).toNat := (by rw [Ny127.out, List.length_drop] <;> omega); rw [show (x10_1).drop (x13_2 : Int).toNat = y127 from Ny127.out.symm] at hr39; replace hr39 : Kd.C Kd.string _ A39 y127.length y127 := (by rw [hA39]; exact hr39); rw [← hy39, ← hA39, ← hc39] at hcut39; have HR130 := Zad.mk hr39; have HC130 := Zad.mk (show y127.length ≤ c39 from by rw [hy39, hc39]; exact Nat.sub_le_sub_right hroom39 _); clear hr39 hC39 hroom39 hi039 hsz39 hc39; have KY39 := Zad.mk hy39; have KA39 := Zad.mk hA39; clear hy39 hA39; have KL39 := Zad.mk (show (x13_2 : Int).toNat ≤ x10_1.length from by omega); replace q39 := eq_true q39) | ((with_reducible refine Za9 (b := .append) (xs := #[.tmp 59, .tmp 62]) rfl ?_); at_builtin; refine Kd.R_append_rows Kd.string (w0 := w) w.heap.size rfl (.tmp 59) (.tmp 62) 22 9 (.string ⟨#[]⟩) 16 rfl Tryz.underlying22 info9 rfl (by decide) (by omega) v125 y124 y127 _ _ _ (fun k_ => some k_ ≠ (.slice (some ad113) x10_1.length co33 : Value).ownBlock ∧ some k_ ≠ (.slice (some ad112) t109.length co18 : Value).ownBlock) (fun _ => False) rfl rfl ?aO ?aR (fun _ _ h => h) (fun _ h => h.elim) ?aF ?aB ?aS ?aL ?_; (case aR => repeat (first | exact (by repeat (first | (with_reducible exact HR130.out) | (with_reducible refine Kd.C_alloc ?_ _) | (with_reducible refine Kd.C_drewN ?_ _) | (with_reducible refine Kd.C_drew ?_) | exact HR130.out)) | (with_reducible refine Kd.C_alloc ?_ _) | (with_reducible refine Kd.C_drewN ?_ _) | (with_reducible refine Kd.C_drew ?_))); (case aB => exact (by with_reducible repeat first | exact HB.out | apply Zac | apply Zaa | apply Zab | refine Zah ?_ E08.out)); (case aF => exact (fun k_ hk => ⟨Kd.fresh' (Kd.R_lt (by (with_reducible repeat (first | apply Kd.R_alloc | apply Kd.R_drewN | apply Kd.R_drew)); exact HO_10.out)) k_ hk, Kd.fresh' (Kd.R_lt (by (with_reducible repeat (first | apply Kd.R_alloc | apply Kd.R_drewN | apply Kd.R_drew)); exact HO_31.out)) k_ hk⟩)); (case aO => exact (by (with_reducible repeat (first | apply Kd.R_alloc | apply Kd.R_drewN | apply Kd.R_drew)); exact HO126.out)); (case aS => exact (Zak (by with_reducible repeat first | exact HB.out | apply Zac | apply Zaa | apply Zab | refine Zah ?_ E08.out))); (case aL => have := LMc32.out; omega); intro v132 w40 ho hb hg hat; rw [← Ny131.out] at ho; have n0_ := Zad.mk (Kd.R_after (ok := (fun k_ => some k_ ≠ (.slice (some ad112) t109.length co18 : Value).ownBlock)) (by (with_reducible repeat (first | apply Kd.R_alloc | apply Kd.R_drewN | apply Kd.R_drew)); exact HO_10.out) hg hat); have n1_ := Zad.mk (Kd.R_after (ok := (fun k_ => some k_ ≠ (.slice (some ad113) x10_1.length co33 : Value).ownBlock)) (by (with_reducible repeat (first | apply Kd.R_alloc | apply Kd.R_drewN | apply Kd.R_drew)); exact HO_31.out) hg hat); have n2_ := Zad.mk (Kd.R_over' (by (with_reducible repeat (first | apply Kd.R_alloc | apply Kd.R_drewN | apply Kd.R_drew)); exact HO_109002.out) (Kd.R_typed (by (with_reducible repeat (first | apply Kd.R_alloc | apply Kd.R_drewN | apply Kd.R_drew)); exact HO126.out)) (by decide) hg); have n3_ := Zad.mk (Zbf (g := g08) (o := .cells #[.int .i64 t101, .int .i64 t102, .slice Ao16 t103.length co16] 52 (0, 0)) (by (with_reducible repeat (first | refine Zag ?_ _ | refine Zaj ?_ | refine Zaf ?_ _)); exact K08.out) hg (Kd.R_ne HO126.out K08.out (by decide))); have n4_ := Zad.mk (hb); have n5_ := Zad.mk ((show Kd.C Kd.string w40 (some ad113) y117.length y117 from by rw [Ny117.out]; exact Kd.C_take (m := (x13_2 : Int).toNat) ((Kd.R_reads' (Kd.R_after (ok := (fun k_ => some k_ ≠ (.slice (some ad112) t109.length co18 : Value).ownBlock)) (by (with_reducible repeat (first | apply Kd.R_alloc | apply Kd.R_drewN | apply Kd.R_drew)); exact HO_10.out) hg hat)).2.2) KL36.out)); have n6_ := Zad.mk ((show Kd.C Kd.string w40 A39 y127.length y127 from by rw [Ny127.out, KA39.out]; exact Kd.C_drop (m := (x13_2 : Int).toNat) (c := co33) ((Kd.R_reads' (Kd.R_after (ok := (fun k_ => some k_ ≠ (.slice (some ad112) t109.length co18 : Value).ownBlock)) (by (with_reducible repeat (first | apply Kd.R_alloc | apply Kd.R_drewN | apply Kd.R_drew)); exact HO_10.out) hg hat)).2.2) KL39.out ((Kd.R_reads' (Kd.R_after (ok := (fun k_ => some k_ ≠ (.slice (some ad112) t109.length co18 : Value).ownBlock)) (by (with_reducible repeat (first | apply Kd.R_alloc | apply Kd.R_drewN | apply Kd.R_drew)); exact HO_10.out) hg hat)).2.1))); have n7_ := Zad.mk (ho); clear HO_10; clear HO_31; clear HO_109002; clear K08; clear HB; clear HR120; clear HR130; clear HO126; have HO_10 := n0_; have HO_31 := n1_; have HO_109002 := n2_; have K08 := n3_; have HB := n4_; have HR120 := n5_; have HR130 := n6_; have HO133 := n7_; clear ho hb hg hat))
                 go_roundg k2
                 case measure => have := HK1.out; have := HK2.out; omega
                 case rel => exact ⟨(y131), (wrap64 (x33_1 + 1)), (by first | rfl | (simp; done) | (simp [*]; done)), H', ⟨by have := HK1.out; have := HK2.out; omega⟩, ⟨by (with_reducible repeat (first | apply Kd.R_alloc | apply Kd.R_drewN | apply Kd.R_drew)); exact Kd.R_mono HO133.out (fun _ hk => hk.2)⟩, ⟨by (with_reducible repeat (first | apply Kd.R_alloc | apply Kd.R_drewN | apply Kd.R_drew)); exact Kd.R_mono HO_31.out (fun _ hk => hk.2)⟩, ⟨by (with_reducible repeat (first | apply Kd.R_alloc | apply Kd.R_drewN | apply Kd.R_drew)); exact HO_109002.out⟩, ⟨by (with_reducible repeat (first | refine Zag ?_ _ | refine Zaj ?_ | refine Zaf ?_ _)); exact K08.out⟩, ⟨by with_reducible repeat first | exact HB.out | apply Zac | apply Zaa | apply Zab | refine Zah ?_ E08.out⟩⟩
                ·rw [if_neg c32] at H
                 exact absurd H (by simp)
               ·rw [if_neg c29] at H
                exact absurd H (by simp)
              ·rw [if_neg c28] at H
               exact absurd H (by simp)
             ·rw [if_neg c27] at H
              exact absurd H (by simp)
           ·rw [if_neg c23] at H
            exact absurd H (by simp)
          ·rw [if_neg c22] at H
           have c22b0 : decide (x13_2 < (x10_1.length : Int)) = false := decide_eq_false c22
           clear c22
           obtain ⟨y134, hy134⟩ : ∃ y_ : List ByteArray, y_ = (([] : List ByteArray)) := ⟨_, rfl⟩
           replace H : (if 0 ≤ x13_2 then (if x13_2 ≤ (x10_1.length : Int) then ((some (x10_1.take (x13_2 : Int).toNat : List ByteArray)).bind fun y137 => (if y134.length + y137.length < 8796093022208 then ((some (y134 ++ y137 : List ByteArray)).bind fun y141 => (if y141.length < 8796093022208 then ((some (y141 ++ [(rdOf ByteArray.empty t109 x33_1)] : List ByteArray)).bind fun y144 => ((some (x10_1.drop (x13_2 : Int).toNat : List ByteArray)).bind fun y147 => (if y144.length + y147.length < 8796093022208 then (Zaw.l0 k2 (y144 ++ y147) t109 (t109.length : Int) (wrap64 (x33_1 + 1))) else (none)))) else (none))) else (none))) else (none)) else (none)) = some (r1, r2) := by first | (rw [hy134]; with_reducible exact H) | (have H2_ := (Option.bind_some _ _).symm.trans H; rw [hy134]; with_reducible exact H2_) | (have H2_ := (Option.bind_some _ _).symm.trans H; with_reducible exact H2_) | with_reducible exact H | (rw [hy134]; exact H) | exact H
           have Ny134 := Zad.mk hy134
           clear hy134
           by_cases c41 : 0 ≤ x13_2
           ·rw [if_pos c41] at H
            have c41b0 := eq_true c41
            have c41b1 : decide (0 ≤ x13_2) = true := decide_eq_true c41
            clear c41
            by_cases c42 : x13_2 ≤ (x10_1.length : Int)
            ·rw [if_pos c42] at H
             have c42b0 := eq_true c42
             have c42b1 : decide (x13_2 ≤ (x10_1.length : Int)) = true := decide_eq_true c42
             clear c42
             obtain ⟨y137, hy137⟩ : ∃ y_ : List ByteArray, y_ = (x10_1.take (x13_2 : Int).toNat) := ⟨_, rfl⟩
             replace H : (if y134.length + y137.length < 8796093022208 then ((some (y134 ++ y137 : List ByteArray)).bind fun y141 => (if y141.length < 8796093022208 then ((some (y141 ++ [(rdOf ByteArray.empty t109 x33_1)] : List ByteArray)).bind fun y144 => ((some (x10_1.drop (x13_2 : Int).toNat : List ByteArray)).bind fun y147 => (if y144.length + y147.length < 8796093022208 then (Zaw.l0 k2 (y144 ++ y147) t109 (t109.length : Int) (wrap64 (x33_1 + 1))) else (none)))) else (none))) else (none)) = some (r1, r2) := by first | (rw [hy137]; with_reducible exact H) | (have H2_ := (Option.bind_some _ _).symm.trans H; rw [hy137]; with_reducible exact H2_) | (have H2_ := (Option.bind_some _ _).symm.trans H; with_reducible exact H2_) | with_reducible exact H | (rw [hy137]; exact H) | exact H
             have Ny137 := Zad.mk hy137
             clear hy137
             by_cases c43 : y134.length + y137.length < 8796093022208
             ·rw [if_pos c43] at H
              have LMc43 := Zad.mk c43
              clear c43
              obtain ⟨y141, hy141⟩ : ∃ y_ : List ByteArray, y_ = (y134 ++ y137) := ⟨_, rfl⟩
              replace H : (if y141.length < 8796093022208 then ((some (y141 ++ [(rdOf ByteArray.empty t109 x33_1)] : List ByteArray)).bind fun y144 => ((some (x10_1.drop (x13_2 : Int).toNat : List ByteArray)).bind fun y147 => (if y144.length + y147.length < 8796093022208 then (Zaw.l0 k2 (y144 ++ y147) t109 (t109.length : Int) (wrap64 (x33_1 + 1))) else (none)))) else (none)) = some (r1, r2) := by first | (rw [hy141]; with_reducible exact H) | (have H2_ := (Option.bind_some _ _).symm.trans H; rw [hy141]; with_reducible exact H2_) | (have H2_ := (Option.bind_some _ _).symm.trans H; with_reducible exact H2_) | with_reducible exact H | (rw [hy141]; exact H) | exact H
              have Ny141 := Zad.mk hy141
              clear hy141
              by_cases c44 : y141.length < 8796093022208
              ·rw [if_pos c44] at H
               have LMc44 := Zad.mk c44
               clear c44
               obtain ⟨y144, hy144⟩ : ∃ y_ : List ByteArray, y_ = (y141 ++ [(rdOf ByteArray.empty t109 x33_1)]) := ⟨_, rfl⟩
               replace H : ((some (x10_1.drop (x13_2 : Int).toNat : List ByteArray)).bind fun y147 => (if y144.length + y147.length < 8796093022208 then (Zaw.l0 k2 (y144 ++ y147) t109 (t109.length : Int) (wrap64 (x33_1 + 1))) else (none))) = some (r1, r2) := by first | (rw [hy144]; with_reducible exact H) | (have H2_ := (Option.bind_some _ _).symm.trans H; rw [hy144]; with_reducible exact H2_) | (have H2_ := (Option.bind_some _ _).symm.trans H; with_reducible exact H2_) | with_reducible exact H | (rw [hy144]; exact H) | exact H
               have Ny144 := Zad.mk hy144
               clear hy144
               have c45b0 := eq_true (of_decide_eq_true (by first | (with_reducible assumption) | assumption) : 0 ≤ x13_2)
               have c46b0 := eq_true (of_decide_eq_true (by first | (with_reducible assumption) | assumption) : x13_2 ≤ (x10_1.length : Int))
               obtain ⟨y147, hy147⟩ : ∃ y_ : List ByteArray, y_ = (x10_1.drop (x13_2 : Int).toNat) := ⟨_, rfl⟩
               replace H : (if y144.length + y147.length < 8796093022208 then (Zaw.l0 k2 (y144 ++ y147) t109 (t109.length : Int) (wrap64 (x33_1 + 1))) else (none)) = some (r1, r2) := by first | (rw [hy147]; with_reducible exact H) | (have H2_ := (Option.bind_some _ _).symm.trans H; rw [hy147]; with_reducible exact H2_) | (have H2_ := (Option.bind_some _ _).symm.trans H; with_reducible exact H2_) | with_reducible exact H | (rw [hy147]; exact H) | exact H
               have Ny147 := Zad.mk hy147
               clear hy147
               by_cases c47 : y144.length + y147.length < 8796093022208
               ·rw [if_pos c47] at H
                have LMc47 := Zad.mk c47
                clear c47
                obtain ⟨y151, hy151⟩ : ∃ y_ : List ByteArray, y_ = (y144 ++ y147) := ⟨_, rfl⟩
                replace H : (Zaw.l0 k2 y151 t109 (t109.length : Int) (wrap64 (x33_1 + 1))) = some (r1, r2) := by first | (rw [hy151]; with_reducible exact H) | (have H2_ := (Option.bind_some _ _).symm.trans H; rw [hy151]; with_reducible exact H2_) | (have H2_ := (Option.bind_some _ _).symm.trans H; with_reducible exact H2_) | with_reducible exact H | (rw [hy151]; exact H) | exact H
                have Ny151 := Zad.mk hy151
                clear hy151
                have H' := Zad.mk H
                clear H
                obtain ⟨Ao48, co48, eo48⟩ := Kd.R_slice HO_10.out
                subst eo48
                go_wp2_with (first | ((with_reducible refine Zay (N := 51) rfl ?_); refine Kd.R_lit Kd.string _ 9 ?hg (N := 51) ?hd (xs := ([] : List ByteArray)) (inner := []) (ok := fun _ => True) (okp := fun _ => True) ?hr ?hp (fun _ hk => hk) trivial (Below.refl _ _) (Nat.le_refl _) (by simp) ?_; (case hd => rfl); (case hg => rfl); (case hr => first | (go_simp; done) | (go_simp; rfl)); (case hp => exact (Reps.none _ _)); intro v135 w49 ho50 hb hg_ hnew_; clear hg_ hnew_; (first | rw [← Ny134.out] at ho50 | (simp only [Int.reduceToNat] at ho50; rw [← Ny134.out] at ho50)); have n0_ := Zad.mk (Kd.R_elder' (by (with_reducible repeat (first | apply Kd.R_alloc | apply Kd.R_drewN | apply Kd.R_drew)); exact HO_10.out) (Kd.R_base ho50) hb); have n1_ := Zad.mk (Kd.R_elder' (by (with_reducible repeat (first | apply Kd.R_alloc | apply Kd.R_drewN | apply Kd.R_drew)); exact HO_31.out) (Kd.R_base ho50) hb); have n2_ := Zad.mk (Kd.R_below (by (with_reducible repeat (first | apply Kd.R_alloc | apply Kd.R_drewN | apply Kd.R_drew)); exact HO_109002.out) hb); have n3_ := Zad.mk (Kd.R_lower (Kd.R_new' (Kd.R_new' ho50 (Kd.R_lt (by (with_reducible repeat (first | apply Kd.R_alloc | apply Kd.R_drewN | apply Kd.R_drew)); exact HO_10.out))) (Kd.R_lt (by (with_reducible repeat (first | apply Kd.R_alloc | apply Kd.R_drewN | apply Kd.R_drew)); exact HO_31.out))) (Zak (by with_reducible repeat first | exact HB.out | apply Zac | apply Zaa | apply Zab | refine Zah ?_ E08.out))); have n4_ := Zad.mk (Zav (g := g08) (o := .cells #[.int .i64 t101, .int .i64 t102, .slice Ao16 t103.length co16] 52 (0, 0)) (by (with_reducible repeat (first | refine Zag ?_ _ | refine Zaj ?_ | refine Zaf ?_ _)); exact K08.out) hb); have n5_ := Zad.mk (Zal (by with_reducible repeat first | exact HB.out | apply Zac | apply Zaa | apply Zab | refine Zah ?_ E08.out) hb); clear HO_10; clear HO_31; clear HO_109002; clear K08; clear HB; have HO_10 := n0_; have HO_31 := n1_; have HO_109002 := n2_; have HO136 := n3_; have K08 := n4_; have HB := n5_; clear hb ho50; have q51 : (x13_2 : Int) ≤ ((x10_1.length : Int) : Int) := of_decide_eq_true (by first | (with_reducible assumption) | assumption); obtain ⟨i051, hi051, _, hsz51, _⟩ := info_parts info9; have hroom51 : x10_1.length ≤ co48 := (Kd.R_reads' HO_10.out).2.1; have hC51 : Kd.C Kd.string _ Ao48 x10_1.length x10_1 := (Kd.R_reads' HO_10.out).2.2; have hcut51 := Zg7 (P := Tryz.prog) 22 9 .i64 Tryz.underlying22 hi051 Ao48 x10_1.length co48 x13_2 (of_decide_eq_true (by first | (with_reducible assumption) | assumption)) q51 hroom51; have hr51 := Kd.C_take (m := (x13_2 : Int).toNat) hC51 (by omega); have hy51 : y137.length = (x13_2 : Int).toNat := (by rw [Ny137.out, List.length_take]; omega); rw [← Ny137.out] at hr51; rw [← hy51] at hcut51; have HR140 := Zad.mk hr51; have HC140 := Zad.mk (show y137.length ≤ co48 from by omega); clear hr51 hC51 hroom51 hi051 hsz51; have KY51 := Zad.mk hy51; clear hy51; have KL51 := Zad.mk (show (x13_2 : Int).toNat ≤ x10_1.length from by omega); replace q51 := eq_true q51) | ((with_reducible refine Za9 (b := .append) (xs := #[.tmp 51, .tmp 54]) rfl ?_); at_builtin; refine Kd.R_append_rows Kd.string (w0 := w) w.heap.size rfl (.tmp 51) (.tmp 54) 22 9 (.string ⟨#[]⟩) 16 rfl Tryz.underlying22 info9 rfl (by decide) (by omega) v135 y134 y137 _ _ _ (fun k_ => some k_ ≠ (.slice Ao48 x10_1.length co48 : Value).ownBlock ∧ some k_ ≠ (.slice (some ad112) t109.length co18 : Value).ownBlock) (fun _ => False) rfl rfl ?aO ?aR (fun _ _ h => h) (fun _ h => h.elim) ?aF ?aB ?aS ?aL ?_; (case aR => repeat (first | exact (by repeat (first | (with_reducible exact HR140.out) | (with_reducible refine Kd.C_alloc ?_ _) | (with_reducible refine Kd.C_drewN ?_ _) | (with_reducible refine Kd.C_drew ?_) | exact HR140.out)) | (with_reducible refine Kd.C_alloc ?_ _) | (with_reducible refine Kd.C_drewN ?_ _) | (with_reducible refine Kd.C_drew ?_))); (case aB => exact (by with_reducible repeat first | exact HB.out | apply Zac | apply Zaa | apply Zab | refine Zah ?_ E08.out)); (case aF => exact (fun k_ hk => ⟨Kd.fresh' (Kd.R_lt (by (with_reducible repeat (first | apply Kd.R_alloc | apply Kd.R_drewN | apply Kd.R_drew)); exact HO_10.out)) k_ hk, Kd.fresh' (Kd.R_lt (by (with_reducible repeat (first | apply Kd.R_alloc | apply Kd.R_drewN | apply Kd.R_drew)); exact HO_31.out)) k_ hk⟩)); (case aO => exact (by (with_reducible repeat (first | apply Kd.R_alloc | apply Kd.R_drewN | apply Kd.R_drew)); exact Kd.R_mono HO136.out (fun _ hk => ⟨hk.1.2, hk.2⟩))); (case aS => exact (Zak (by with_reducible repeat first | exact HB.out | apply Zac | apply Zaa | apply Zab | refine Zah ?_ E08.out))); (case aL => have := LMc43.out; omega); intro v142 w52 ho hb hg hat; rw [← Ny141.out] at ho; have n0_ := Zad.mk (Kd.R_after (ok := (fun k_ => some k_ ≠ (.slice (some ad112) t109.length co18 : Value).ownBlock)) (by (with_reducible repeat (first | apply Kd.R_alloc | apply Kd.R_drewN | apply Kd.R_drew)); exact HO_10.out) hg hat); have n1_ := Zad.mk (Kd.R_after (ok := (fun k_ => some k_ ≠ (.slice Ao48 x10_1.length co48 : Value).ownBlock)) (by (with_reducible repeat (first | apply Kd.R_alloc | apply Kd.R_drewN | apply Kd.R_drew)); exact HO_31.out) hg hat); have n2_ := Zad.mk (Kd.R_over' (by (with_reducible repeat (first | apply Kd.R_alloc | apply Kd.R_drewN | apply Kd.R_drew)); exact HO_109002.out) (Kd.R_typed (by (with_reducible repeat (first | apply Kd.R_alloc | apply Kd.R_drewN | apply Kd.R_drew)); exact HO136.out)) (by decide) hg); have n3_ := Zad.mk (Zbf (g := g08) (o := .cells #[.int .i64 t101, .int .i64 t102, .slice Ao16 t103.length co16] 52 (0, 0)) (by (with_reducible repeat (first | refine Zag ?_ _ | refine Zaj ?_ | refine Zaf ?_ _)); exact K08.out) hg (Kd.R_ne HO136.out K08.out (by decide))); have n4_ := Zad.mk (hb); have n5_ := Zad.mk ((show Kd.C Kd.string w52 Ao48 y137.length y137 from by rw [Ny137.out]; exact Kd.C_take (m := (x13_2 : Int).toNat) ((Kd.R_reads' (Kd.R_after (ok := (fun k_ => some k_ ≠ (.slice (some ad112) t109.length co18 : Value).ownBlock)) (by (with_reducible repeat (first | apply Kd.R_alloc | apply Kd.R_drewN | apply Kd.R_drew)); exact HO_10.out) hg hat)).2.2) KL51.out)); have n6_ := Zad.mk (ho); clear HO_10; clear HO_31; clear HO_109002; clear K08; clear HB; clear HR140; clear HO136; have HO_10 := n0_; have HO_31 := n1_; have HO_109002 := n2_; have K08 := n3_; have HB := n4_; have HR140 := n5_; have HO143 := n6_; clear ho hb hg hat) | ((with_reducible refine Za9 (b := .append) (xs := #[.tmp 55, .tmp 57]) rfl ?_); at_builtin; refine Kd.R_append Kd.string (w0 := w) w.heap.size rfl (.tmp 55) (.tmp 57) 22 9 (.string ⟨#[]⟩) 16 rfl Tryz.underlying22 info9 rfl (by decide) (by omega) v142 y141 (rdOf ByteArray.empty t109 x33_1) [.string (rdOf ByteArray.empty t109 x33_1)] (fun k_ => some k_ ≠ (.slice Ao48 x10_1.length co48 : Value).ownBlock ∧ some k_ ≠ (.slice (some ad112) t109.length co18 : Value).ownBlock) (fun _ => False) rfl rfl ?aP (fun _ hk => hk.elim) ?aF ?aO ?aB ?aS ?aL ?_; (case aP => exact rfl); (case aB => exact (by with_reducible repeat first | exact HB.out | apply Zac | apply Zaa | apply Zab | refine Zah ?_ E08.out)); (case aF => exact (fun k_ hk => ⟨Kd.fresh' (Kd.R_lt (by (with_reducible repeat (first | apply Kd.R_alloc | apply Kd.R_drewN | apply Kd.R_drew)); exact HO_10.out)) k_ hk, Kd.fresh' (Kd.R_lt (by (with_reducible repeat (first | apply Kd.R_alloc | apply Kd.R_drewN | apply Kd.R_drew)); exact HO_31.out)) k_ hk⟩)); (case aO => exact (by (with_reducible repeat (first | apply Kd.R_alloc | apply Kd.R_drewN | apply Kd.R_drew)); exact HO143.out)); (case aS => exact (Zak (by with_reducible repeat first | exact HB.out | apply Zac | apply Zaa | apply Zab | refine Zah ?_ E08.out))); (case aL => have := LMc44.out; omega); intro v145 w53 ho hb hg hat; rw [← Ny144.out] at ho; have n0_ := Zad.mk (Kd.R_after (ok := (fun k_ => some k_ ≠ (.slice (some ad112) t109.length co18 : Value).ownBlock)) (by (with_reducible repeat (first | apply Kd.R_alloc | apply Kd.R_drewN | apply Kd.R_drew)); exact HO_10.out) hg hat); have n1_ := Zad.mk (Kd.R_after (ok := (fun k_ => some k_ ≠ (.slice Ao48 x10_1.length co48 : Value).ownBlock)) (by (with_reducible repeat (first | apply Kd.R_alloc | apply Kd.R_drewN | apply Kd.R_drew)); exact HO_31.out) hg hat); have n2_ := Zad.mk (Kd.R_over' (by (with_reducible repeat (first | apply Kd.R_alloc | apply Kd.R_drewN | apply Kd.R_drew)); exact HO_109002.out) (Kd.R_typed (by (with_reducible repeat (first | apply Kd.R_alloc | apply Kd.R_drewN | apply Kd.R_drew)); exact HO143.out)) (by decide) hg); have n3_ := Zad.mk (Zbf (g := g08) (o := .cells #[.int .i64 t101, .int .i64 t102, .slice Ao16 t103.length co16] 52 (0, 0)) (by (with_reducible repeat (first | refine Zag ?_ _ | refine Zaj ?_ | refine Zaf ?_ _)); exact K08.out) hg (Kd.R_ne HO143.out K08.out (by decide))); have n4_ := Zad.mk (hb); have n5_ := Zad.mk ((show Kd.C Kd.string w53 Ao48 y137.length y137 from by rw [Ny137.out]; exact Kd.C_take (m := (x13_2 : Int).toNat) ((Kd.R_reads' (Kd.R_after (ok := (fun k_ => some k_ ≠ (.slice (some ad112) t109.length co18 : Value).ownBlock)) (by (with_reducible repeat (first | apply Kd.R_alloc | apply Kd.R_drewN | apply Kd.R_drew)); exact HO_10.out) hg hat)).2.2) KL51.out)); have n6_ := Zad.mk (ho); clear HO_10; clear HO_31; clear HO_109002; clear K08; clear HB; clear HR140; clear HO143; have HO_10 := n0_; have HO_31 := n1_; have HO_109002 := n2_; have K08 := n3_; have HB := n4_; have HR140 := n5_; have HO146 := n6_; clear ho hb hg hat; have q54 : (x13_2 : Int) ≤ ((x10_1.length : Int) : Int) := of_decide_eq_true (by first | (with_reducible assumption) | assumption); obtain ⟨i054, hi054, _, hsz54, _⟩ := info_parts info9; have hroom54 : x10_1.length ≤ co48 := (Kd.R_reads' HO_10.out).2.1; have hC54 : Kd.C Kd.string _ Ao48 x10_1.length x10_1 := (Kd.R_reads' HO_10.out).2.2; have q054 : (0 : Int) ≤ (x13_2 : Int) := of_decide_eq_true (by first | (with_reducible assumption) | assumption); have hcut54 := Zgh (P := Tryz.prog) 22 9 .i64 Tryz.underlying22 hi054 1 hsz54 Ao48 x10_1.length co48 x13_2 q054 q54; have hr54 := Kd.C_drop (m := (x13_2 : Int).toNat) (c := co48) hC54 (by omega) hroom54; obtain ⟨A54, hA54⟩ : ∃ A1, A1 = (if co48 = (x13_2 : Int).toNat then Ao48 else (Ao48 : Option Addr).map (·.add ((x13_2 : Int).toNat * 1))) := ⟨_, rfl⟩; obtain ⟨c54, hc54⟩ : ∃ c1, c1 = co48 - (x13_2 : Int).toNat := ⟨_, rfl⟩; have hy54 : y147.length = x10_1.length - (x13_2 : Int).toNat := (by rw [Ny147.out, List.length_drop] <;> omega); rw [show (x10_1).drop (x13_2 : Int).toNat = y147 from Ny147.out.symm] at hr54; replace hr54 : Kd.C Kd.string _ A54 y147.length y147 := (by rw [hA54]; exact hr54); rw [← hy54, ← hA54, ← hc54] at hcut54; have HR150 := Zad.mk hr54; have HC150 := Zad.mk (show y147.length ≤ c54 from by rw [hy54, hc54]; exact Nat.sub_le_sub_right hroom54 _); clear hr54 hC54 hroom54 hi054 hsz54 hc54; have KY54 := Zad.mk hy54; have KA54 := Zad.mk hA54; clear hy54 hA54; have KL54 := Zad.mk (show (x13_2 : Int).toNat ≤ x10_1.length from by omega); replace q54 := eq_true q54) | ((with_reducible refine Za9 (b := .append) (xs := #[.tmp 59, .tmp 62]) rfl ?_); at_builtin; refine Kd.R_append_rows Kd.string (w0 := w) w.heap.size rfl (.tmp 59) (.tmp 62) 22 9 (.string ⟨#[]⟩) 16 rfl Tryz.underlying22 info9 rfl (by decide) (by omega) v145 y144 y147 _ _ _ (fun k_ => some k_ ≠ (.slice Ao48 x10_1.length co48 : Value).ownBlock ∧ some k_ ≠ (.slice (some ad112) t109.length co18 : Value).ownBlock) (fun _ => False) rfl rfl ?aO ?aR (fun _ _ h => h) (fun _ h => h.elim) ?aF ?aB ?aS ?aL ?_; (case aR => repeat (first | exact (by repeat (first | (with_reducible exact HR150.out) | (with_reducible refine Kd.C_alloc ?_ _) | (with_reducible refine Kd.C_drewN ?_ _) | (with_reducible refine Kd.C_drew ?_) | exact HR150.out)) | (with_reducible refine Kd.C_alloc ?_ _) | (with_reducible refine Kd.C_drewN ?_ _) | (with_reducible refine Kd.C_drew ?_))); (case aB => exact (by with_reducible repeat first | exact HB.out | apply Zac | apply Zaa | apply Zab | refine Zah ?_ E08.out)); (case aF => exact (fun k_ hk => ⟨Kd.fresh' (Kd.R_lt (by (with_reducible repeat (first | apply Kd.R_alloc | apply Kd.R_drewN | apply Kd.R_drew)); exact HO_10.out)) k_ hk, Kd.fresh' (Kd.R_lt (by (with_reducible repeat (first | apply Kd.R_alloc | apply Kd.R_drewN | apply Kd.R_drew)); exact HO_31.out)) k_ hk⟩)); (case aO => exact (by (with_reducible repeat (first | apply Kd.R_alloc | apply Kd.R_drewN | apply Kd.R_drew)); exact HO146.out)); (case aS => exact (Zak (by with_reducible repeat first | exact HB.out | apply Zac | apply Zaa | apply Zab | refine Zah ?_ E08.out))); (case aL => have := LMc47.out; omega); intro v152 w55 ho hb hg hat; rw [← Ny151.out] at ho; have n0_ := Zad.mk (Kd.R_after (ok := (fun k_ => some k_ ≠ (.slice (some ad112) t109.length co18 : Value).ownBlock)) (by (with_reducible repeat (first | apply Kd.R_alloc | apply Kd.R_drewN | apply Kd.R_drew)); exact HO_10.out) hg hat); have n1_ := Zad.mk (Kd.R_after (ok := (fun k_ => some k_ ≠ (.slice Ao48 x10_1.length co48 : Value).ownBlock)) (by (with_reducible repeat (first | apply Kd.R_alloc | apply Kd.R_drewN | apply Kd.R_drew)); exact HO_31.out) hg hat); have n2_ := Zad.mk (Kd.R_over' (by (with_reducible repeat (first | apply Kd.R_alloc | apply Kd.R_drewN | apply Kd.R_drew)); exact HO_109002.out) (Kd.R_typed (by (with_reducible repeat (first | apply Kd.R_alloc | apply Kd.R_drewN | apply Kd.R_drew)); exact HO146.out)) (by decide) hg); have n3_ := Zad.mk (Zbf (g := g08) (o := .cells #[.int .i64 t101, .int .i64 t102, .slice Ao16 t103.length co16] 52 (0, 0)) (by (with_reducible repeat (first | refine Zag ?_ _ | refine Zaj ?_ | refine Zaf ?_ _)); exact K08.out) hg (Kd.R_ne HO146.out K08.out (by decide))); have n4_ := Zad.mk (hb); have n5_ := Zad.mk ((show Kd.C Kd.string w55 Ao48 y137.length y137 from by rw [Ny137.out]; exact Kd.C_take (m := (x13_2 : Int).toNat) ((Kd.R_reads' (Kd.R_after (ok := (fun k_ => some k_ ≠ (.slice (some ad112) t109.length co18 : Value).ownBlock)) (by (with_reducible repeat (first | apply Kd.R_alloc | apply Kd.R_drewN | apply Kd.R_drew)); exact HO_10.out) hg hat)).2.2) KL51.out)); have n6_ := Zad.mk ((show Kd.C Kd.string w55 A54 y147.length y147 from by rw [Ny147.out, KA54.out]; exact Kd.C_drop (m := (x13_2 : Int).toNat) (c := co48) ((Kd.R_reads' (Kd.R_after (ok := (fun k_ => some k_ ≠ (.slice (some ad112) t109.length co18 : Value).ownBlock)) (by (with_reducible repeat (first | apply Kd.R_alloc | apply Kd.R_drewN | apply Kd.R_drew)); exact HO_10.out) hg hat)).2.2) KL54.out ((Kd.R_reads' (Kd.R_after (ok := (fun k_ => some k_ ≠ (.slice (some ad112) t109.length co18 : Value).ownBlock)) (by (with_reducible repeat (first | apply Kd.R_alloc | apply Kd.R_drewN | apply Kd.R_drew)); exact HO_10.out) hg hat)).2.1))); have n7_ := Zad.mk (ho); clear HO_10; clear HO_31; clear HO_109002; clear K08; clear HB; clear HR140; clear HR150; clear HO146; have HO_10 := n0_; have HO_31 := n1_; have HO_109002 := n2_; have K08 := n3_; have HB := n4_; have HR140 := n5_; have HR150 := n6_; have HO153 := n7_; clear ho hb hg hat))
                go_roundg k2
                case measure => have := HK1.out; have := HK2.out; omega
                case rel => exact ⟨(y151), (wrap64 (x33_1 + 1)), (by first | rfl | (simp; done) | (simp [*]; done)), H', ⟨by have := HK1.out; have := HK2.out; omega⟩, ⟨by (with_reducible repeat (first | apply Kd.R_alloc | apply Kd.R_drewN | apply Kd.R_drew)); exact Kd.R_mono HO153.out (fun _ hk => hk.2)⟩, ⟨by (with_reducible repeat (first | apply Kd.R_alloc | apply Kd.R_drewN | apply Kd.R_drew)); exact Kd.R_mono HO_31.out (fun _ hk => hk.2)⟩, ⟨by (with_reducible repeat (first | apply Kd.R_alloc | apply Kd.R_drewN | apply Kd.R_drew)); exact HO_109002.out⟩, ⟨by (with_reducible repeat (first | refine Zag ?_ _ | refine Zaj ?_ | refine Zaf ?_ _)); exact K08.out⟩, ⟨by with_reducible repeat first | exact HB.out | apply Zac | apply Zaa | apply Zab | refine Zah ?_ E08.out⟩⟩
               ·rw [if_neg c47] at H
                exact absurd H (by simp)
              ·rw [if_neg c44] at H
               exact absurd H (by simp)
             ·rw [if_neg c43] at H
              exact absurd H (by simp)
            ·rw [if_neg c42] at H
             exact absurd H (by simp)
           ·rw [if_neg c41] at H
            exact absurd H (by simp)
       ·rw [if_neg c21] at H
        exact absurd H (by simp)
      ·rw [if_neg c20] at H
       exact absurd H (by simp)
     ·rw [if_neg c19] at H
      have c19b0 : decide (x33_1 < (t109.length : Int)) = false := decide_eq_false c19
      clear c19
      simp only [Option.some.injEq, Prod.mk.injEq] at H
      obtain ⟨rfl, rfl⟩ := H
      go_wp2
      go_ret2
      exact ⟨_, by first | rfl | (simp [Zao, Zan] <;> rfl) | (simp [*, Zao, Zan] <;> rfl), by (with_reducible repeat (first | apply Kd.R_alloc | apply Kd.R_drewN | apply Kd.R_drew)); exact Kd.R_mono HO_10.out (fun _ hk => trivial), by repeat (first | (with_reducible first | exact HB.out | apply Zac | apply Zaa | apply Zab | refine Zah ?_ E08.out) | exact HB.out)⟩
 ·replace c4 := Bool.eq_false_iff.mpr c4
  subst c4
  have H1 : (some (([] : List ByteArray), false)) = some (r1, r2) := by rw [if_neg (show ¬ (false = true) by decide)] at H; exact H
  clear H
  have H := H1
  clear H1
  simp only [Option.some.injEq, Prod.mk.injEq] at H
  obtain ⟨rfl, rfl⟩ := H
  go_enter Tryz.func27, Tryz.ntmps27
  go_wp2_with (first | ((with_reducible refine Zau (f := 39) rfl ?_); refine Zbr (some 18) rfl rfl Tryz.func39 (by kernel_rfl) rfl #[.string a0, .string a1] rfl (by (try simp only [List.map_toArray, List.map_cons, List.map_nil]); first | done | rfl | (simp only [List.length_drop, List.length_take]; rfl)) ?_; (with_reducible refine (Zbt.calls k a0 a1 t101 t102 t103 t106 false _ A3.out).mono ?_); rintro e w56 ⟨v104, rfl, ho0, hb⟩; refine ⟨_, rfl, ?_⟩; have n0_ := Zad.mk (Kd.R_lower ho0 (Zak (by with_reducible repeat first | exact HB.out | apply Zac | apply Zaa | apply Zab))); have n1_ := Zad.mk (Zal (by with_reducible repeat first | exact HB.out | apply Zac | apply Zaa | apply Zab) hb); clear HB; have HO105 := n0_; have HB := n1_) | ((with_reducible refine Zay (N := 6) rfl ?_); refine Zaz ?hg (N := 6) ?hd (cs := #[.int .i64 0, .int .i64 0, .slice none 0 0]) (t := 52) ?hr ?_; (case hd => rfl); (case hg => rfl); (case hr => first | (go_simp; done) | (go_simp; rfl)); intro g08 hg w57 hbox hb; have n0_ := Zad.mk (Kd.R_below (by (with_reducible repeat (first | apply Kd.R_alloc | apply Kd.R_drewN | apply Kd.R_drew)); exact HO105.out) hb); have n1_ := Zad.mk (Zal (by with_reducible repeat first | exact HB.out | apply Zac | apply Zaa | apply Zab) hb); have n2_ := Zad.mk (hbox); have n3_ := Zad.mk ((by rw [hg]; exact (Zak (by with_reducible repeat first | exact HB.out | apply Zac | apply Zaa | apply Zab)) : w.heap.size ≤ g08)); have n4_ := n3_; clear HO105; clear HB; have HO105 := n0_; have HB := n1_; have K08 := n2_; have W08 := n3_; have E08 := n4_; clear hb hbox hg; have hcz58_0 : w57.cell? ⟨g08, 0, none⟩ = some (.int .i64 0) := (Zai K08.out 0).trans rfl; have hcz58_1 : w57.cell? ⟨g08, 1, none⟩ = some (.int .i64 0) := (Zai K08.out 1).trans rfl; have hcz58_2 : w57.cell? ⟨g08, 2, none⟩ = some (.slice none 0 0) := (Zai K08.out 2).trans rfl; have hfz58_0 := Zae K08.out 0; have hfz58_1 := Zae K08.out 1; have hfz58_2 := Zae K08.out 2; obtain ⟨Ao59, co59, eo59⟩ := Kd.R_slice HO105.out; subst eo59))
  go_ret2
  exact ⟨_, by first | rfl | (simp [Zao, Zan] <;> rfl) | (simp [*, Zao, Zan] <;> rfl), by first | exact Kd.R_nil _ _ _ _ _ | exact Kd.N_nil _ _ _ _ _ | exact Kd.V_nil _ _ _ _ _ | exact Kd.Q_nil _ _ _ _ _ | exact Kd.S_nil _ _ _ _ _, by repeat (first | (with_reducible first | exact HB.out | apply Zac | apply Zaa | apply Zab | refine Zah ?_ E08.out) | exact HB.out)⟩
end Go.Proofs.YtjohcjkidoalkaaGreatDoor.PA
namespace Go.Proofs
open Go.Shelf
def Tryz.lays143_ren : Go.Shelf.Ren := ⟨fun | 143 => 126 | 219 => 177 | 217 => 202 | 225 => 203 | 224 => 204 | 267 => 205 | 266 => 219 | 314 => 220 | n => n, fun | 9 => 9 | 3 => 3 | 4 => 4 | 5 => 5 | 46 => 99 | 146 => 207 | 51 => 135 | n => n, fun | 1 => 0 | n => n⟩
theorem Tryz.lays143 : Go.Proofs.Lays.n143 Tryz.prog Tryz.lays143_ren := {
 mixed := by kernel_rfl
 f143 := Tryz.func126.trans (congrArg some (by kernel_rfl))
 f217 := Tryz.func202.trans (congrArg some (by kernel_rfl))
 f219 := Tryz.func177.trans (congrArg some (by kernel_rfl))
 f224 := Tryz.func204.trans (congrArg some (by kernel_rfl))
 f225 := Tryz.func203.trans (congrArg some (by kernel_rfl))
 f266 := Tryz.func219.trans (congrArg some (by kernel_rfl))
 f267 := Tryz.func205.trans (congrArg some (by kernel_rfl))
 f314 := Tryz.func220.trans (congrArg some (by kernel_rfl))
 t3 := Tryz.underlying3
 a3 := Tryz.isAgg3
 z3 := Tryz.sizeOf3
 v3 := Tryz.zeroValue3
 t4 := Tryz.underlying4
 a4 := Tryz.isAgg4
 z4 := Tryz.sizeOf4
 v4 := Tryz.zeroValue4
 t5 := Tryz.underlying5
 a5 := Tryz.isAgg5
 z5 := Tryz.sizeOf5
 v5 := Tryz.zeroValue5
 t9 := Tryz.underlying9
 a9 := Tryz.isAgg9
 z9 := Tryz.sizeOf9
 v9 := Tryz.zeroValue9
 t46 := Tryz.underlying99
 a46 := Tryz.isAgg99
 z46 := Tryz.sizeOf99
 v46 := Tryz.zeroValue99
 t51 := Tryz.underlying135
 a51 := Tryz.isAgg135
 z51 := Tryz.sizeOf135
 v51 := Tryz.zeroValue135
 t146 := Tryz.underlying207
 a146 := Tryz.isAgg207
 z146 := Tryz.sizeOf207
 v146 := Tryz.zeroValue207
 g1 := by kernel_rfl }
def Tryz.lays138_ren : Go.Shelf.Ren := ⟨fun | 138 => 82 | 195 => 124 | 218 => 125 | 143 => 126 | 219 => 177 | 217 => 202 | 225 => 203 | 224 => 204 | 267 => 205 | 266 => 219 | 314 => 220 | n => n, fun | 9 => 9 | 3 => 3 | 4 => 4 | 5 => 5 | 0 => 0 | 46 => 99 | 146 => 207 | 51 => 135 | n => n, fun | 1 => 0 | n => n⟩
theorem Tryz.lays138 : Go.Proofs.Lays.n138 Tryz.prog Tryz.lays138_ren := {
 mixed := by kernel_rfl
 f138 := Tryz.func82.trans (congrArg some (by kernel_rfl))
 f143 := Tryz.func126.trans (congrArg some (by kernel_rfl))
 f195 := Tryz.func124.trans (congrArg some (by kernel_rfl))
 f217 := Tryz.func202.trans (congrArg some (by kernel_rfl))
 f218 := Tryz.func125.trans (congrArg some (by kernel_rfl))
 f219 := Tryz.func177.trans (congrArg some (by kernel_rfl))
 f224 := Tryz.func204.trans (congrArg some (by kernel_rfl))
 f225 := Tryz.func203.trans (congrArg some (by kernel_rfl))
 f266 := Tryz.func219.trans (congrArg some (by kernel_rfl))
 f267 := Tryz.func205.trans (congrArg some (by kernel_rfl))
 f314 := Tryz.func220.trans (congrArg some (by kernel_rfl))
 t0 := Tryz.underlying0
 a0 := Tryz.isAgg0
 z0 := Tryz.sizeOf0
 v0 := Tryz.zeroValue0
 t3 := Tryz.underlying3
 a3 := Tryz.isAgg3
 z3 := Tryz.sizeOf3
 v3 := Tryz.zeroValue3
 t4 := Tryz.underlying4
 a4 := Tryz.isAgg4
 z4 := Tryz.sizeOf4
 v4 := Tryz.zeroValue4
 t5 := Tryz.underlying5
 a5 := Tryz.isAgg5
 z5 := Tryz.sizeOf5
 v5 := Tryz.zeroValue5
 t9 := Tryz.underlying9
 a9 := Tryz.isAgg9
 z9 := Tryz.sizeOf9
 v9 := Tryz.zeroValue9
 t46 := Tryz.underlying99
 a46 := Tryz.isAgg99
 z46 := Tryz.sizeOf99
 v46 := Tryz.zeroValue99
 t51 := Tryz.underlying135
 a51 := Tryz.isAgg135
 z51 := Tryz.sizeOf135
 v51 := Tryz.zeroValue135
 t146 := Tryz.underlying207
 a146 := Tryz.isAgg207
 z146 := Tryz.sizeOf207
 v146 := Tryz.zeroValue207
 g1 := by kernel_rfl }
def Tryz.lays160_ren : Go.Shelf.Ren := ⟨fun | 160 => 106 | 232 => 159 | 231 => 158 | 227 => 160 | 234 => 162 | 233 => 161 | 236 => 164 | 235 => 163 | 228 => 190 | 271 => 193 | 151 => 192 | 197 => 191 | 120 => 212 | 152 => 211 | 260 => 210 | 137 => 222 | 119 => 223 | 224 => 204 | 225 => 203 | 217 => 202 | 266 => 219 | n => n, fun | 9 => 9 | 4 => 4 | 3 => 3 | 5 => 5 | 117 => 160 | 116 => 159 | 0 => 0 | 124 => 163 | 21 => 21 | 105 => 189 | 46 => 99 | 119 => 209 | 139 => 212 | 138 => 211 | n => n, fun | 3 => 1 | 4 => 2 | n => n⟩
theorem Tryz.lays160 : Go.Proofs.Lays.n160 Tryz.prog Tryz.lays160_ren := {
 mixed := by kernel_rfl
 f119 := Tryz.func223.trans (congrArg some (by kernel_rfl))
 f120 := Tryz.func212.trans (congrArg some (by kernel_rfl))
 f137 := Tryz.func222.trans (congrArg some (by kernel_rfl))
 f151 := Tryz.func192.trans (congrArg some (by kernel_rfl))
 f152 := Tryz.func211.trans (congrArg some (by kernel_rfl))
 f160 := Tryz.func106.trans (congrArg some (by kernel_rfl))
 f197 := Tryz.func191.trans (congrArg some (by kernel_rfl))
 f217 := Tryz.func202.trans (congrArg some (by kernel_rfl))
 f224 := Tryz.func204.trans (congrArg some (by kernel_rfl))
 f225 := Tryz.func203.trans (congrArg some (by kernel_rfl))
 f227 := Tryz.func160.trans (congrArg some (by kernel_rfl))
 f228 := Tryz.func190.trans (congrArg some (by kernel_rfl))
 f231 := Tryz.func158.trans (congrArg some (by kernel_rfl))
 f232 := Tryz.func159.trans (congrArg some (by kernel_rfl))
 f233 := Tryz.func161.trans (congrArg some (by kernel_rfl))
 f234 := Tryz.func162.trans (congrArg some (by kernel_rfl))
 f235 := Tryz.func163.trans (congrArg some (by kernel_rfl))
 f236 := Tryz.func164.trans (congrArg some (by kernel_rfl))
 f260 := Tryz.func210.trans (congrArg some (by kernel_rfl))
 f266 := Tryz.func219.trans (congrArg some (by kernel_rfl))
 f271 := Tryz.func193.trans (congrArg some (by kernel_rfl))
 t0 := Tryz.underlying0
 a0 := Tryz.isAgg0
 z0 := Tryz.sizeOf0
 v0 := Tryz.zeroValue0
 t3 := Tryz.underlying3
 a3 := Tryz.isAgg3
 z3 := Tryz.sizeOf3
 v3 := Tryz.zeroValue3
 t4 := Tryz.underlying4
 a4 := Tryz.isAgg4
 z4 := Tryz.sizeOf4
 v4 := Tryz.zeroValue4
 t5 := Tryz.underlying5
 a5 := Tryz.isAgg5
 z5 := Tryz.sizeOf5
 v5 := Tryz.zeroValue5
 t9 := Tryz.underlying9
 a9 := Tryz.isAgg9
 z9 := Tryz.sizeOf9
 v9 := Tryz.zeroValue9
 t21 := Tryz.underlying21
 a21 := Tryz.isAgg21
 z21 := Tryz.sizeOf21
 v21 := Tryz.zeroValue21
 t46 := Tryz.underlying99
 a46 := Tryz.isAgg99
 z46 := Tryz.sizeOf99
 v46 := Tryz.zeroValue99
 t105 := Tryz.underlying189
 a105 := Tryz.isAgg189
 z105 := Tryz.sizeOf189
 v105 := Tryz.zeroValue189
 t116 := Tryz.underlying159
 a116 := Tryz.isAgg159
 z116 := Tryz.sizeOf159
 t117 := Tryz.underlying160
 a117 := Tryz.isAgg160
 z117 := Tryz.sizeOf160
 v117 := Tryz.zeroValue160
 t119 := Tryz.underlying209
 a119 := Tryz.isAgg209
 z119 := Tryz.sizeOf209
 t124 := Tryz.underlying163
 a124 := Tryz.isAgg163
 z124 := Tryz.sizeOf163
 v124 := Tryz.zeroValue163
 t138 := Tryz.underlying211
 a138 := Tryz.isAgg211
 z138 := Tryz.sizeOf211
 v138 := Tryz.zeroValue211
 t139 := Tryz.underlying212
 a139 := Tryz.isAgg212
 z139 := Tryz.sizeOf212
 v139 := Tryz.zeroValue212
 g3 := by kernel_rfl
 g4 := by kernel_rfl }
def Tryz.lays156_ren : Go.Shelf.Ren := ⟨fun | 156 => 107 | 165 => 165 | 166 => 166 | 169 => 167 | 240 => 194 | 241 => 195 | 276 => 213 | 277 => 214 | n => n, fun | 31 => 22 | 9 => 9 | 3 => 3 | 4 => 4 | 0 => 0 | 20 => 20 | 72 => 166 | 76 => 170 | 70 => 164 | 37 => 50 | 75 => 169 | 127 => 192 | 164 => 202 | 5 => 5 | 80 => 96 | n => n, fun | n => n⟩
theorem Tryz.lays156 : Go.Proofs.Lays.n156 Tryz.prog Tryz.lays156_ren := {
 mixed := by kernel_rfl
 f156 := Tryz.func107.trans (congrArg some (by kernel_rfl))
 f165 := Tryz.func165.trans (congrArg some (by kernel_rfl))
 f166 := Tryz.func166.trans (congrArg some (by kernel_rfl))
 f169 := Tryz.func167.trans (congrArg some (by kernel_rfl))
 f240 := Tryz.func194.trans (congrArg some (by kernel_rfl))
 f241 := Tryz.func195.trans (congrArg some (by kernel_rfl))
 f276 := Tryz.func213.trans (congrArg some (by kernel_rfl))
 f277 := Tryz.func214.trans (congrArg some (by kernel_rfl))
 t0 := Tryz.underlying0
 a0 := Tryz.isAgg0
 z0 := Tryz.sizeOf0
 v0 := Tryz.zeroValue0
 t3 := Tryz.underlying3
 a3 := Tryz.isAgg3
 z3 := Tryz.sizeOf3
 v3 := Tryz.zeroValue3
 t4 := Tryz.underlying4
 a4 := Tryz.isAgg4
 z4 := Tryz.sizeOf4
 v4 := Tryz.zeroValue4
 t9 := Tryz.underlying9
 a9 := Tryz.isAgg9
 z9 := Tryz.sizeOf9
 v9 := Tryz.zeroValue9
 t20 := Tryz.underlying20
 a20 := Tryz.isAgg20
 z20 := Tryz.sizeOf20
 v20 := Tryz.zeroValue20
 t31 := Tryz.underlying22
 a31 := Tryz.isAgg22
 z31 := Tryz.sizeOf22
 v31 := Tryz.zeroValue22
 t37 := Tryz.underlying50
 a37 := Tryz.isAgg50
 z37 := Tryz.sizeOf50
 v37 := Tryz.zeroValue50
 t70 := Tryz.underlying164
 a70 := Tryz.isAgg164
 z70 := Tryz.sizeOf164
 v70 := Tryz.zeroValue164
 t72 := Tryz.underlying166
 a72 := Tryz.isAgg166
 z72 := Tryz.sizeOf166
 v72 := Tryz.zeroValue166
 t75 := Tryz.underlying169
 a75 := Tryz.isAgg169
 z75 := Tryz.sizeOf169
 v75 := Tryz.zeroValue169
 t76 := Tryz.underlying170
 a76 := Tryz.isAgg170
 z76 := Tryz.sizeOf170
 v76 := Tryz.zeroValue170
 t127 := Tryz.underlying192
 a127 := Tryz.isAgg192
 z127 := Tryz.sizeOf192
 v127 := Tryz.zeroValue192
 t164 := Tryz.underlying202
 a164 := Tryz.isAgg202
 z164 := Tryz.sizeOf202
 v164 := Tryz.zeroValue202 }
theorem Tryz.Builder_Extra_156 : Builder.Extra Tryz.prog Tryz.lays156_ren := {
 sizeBuilder := by kernel_rfl
 liesBuilder := by kernel_rfl
 t5 := Tryz.underlying5
 a5 := Tryz.isAgg5
 z5 := Tryz.sizeOf5
 v5 := Tryz.zeroValue5
 infoByte := by kernel_rfl
 cellsByte := by kernel_rfl
 sizeByte := by kernel_rfl
 neB5 := by decide }
end Go.Proofs
namespace Go.Proofs.YtjohcjkidoalkaaGreatDoor
open Go.RowKit Go.PW.PrintWords Go.PW.PrintLast Go.PW.PrintMore
def Zc2.f (_ : ByteArray) (_ : Int) : Option (List ByteArray) := none
theorem Zc2.calls (a0 : ByteArray) (a1 : Int) (r : List ByteArray) (w : World) (h : Zc2.f a0 a1 = some r) :
  Calls Tryz.prog 189 #[.string a0, .int .i64 a1] w fun e w' => ∃ v0_ : Value, e = .returned (v0_) ∧ Kd.R Kd.string 9 w' w.heap.size (fun _ => True) v0_ r ∧ Below w.heap.size w w' := by
 simp [Zc2.f] at h
def Zcx.f (s sep : ByteArray) : Option Int := if sep.size = 1 then some (Lib.indexByte s.data.toList (sep.data.getD 0 0)) else none
theorem Zj9 {sep : ByteArray} (h : sep.size = 1) : sep = ⟨#[sep.data.getD 0 0]⟩ := by
 obtain ⟨⟨l⟩⟩ := sep
 match l, h with
 | [c], _ => rfl
theorem Zcx.calls (a0 a1 : ByteArray) (r : Int) (w : World) (h : Zcx.f a0 a1 = some r) :
  Calls Tryz.prog 126 #[.string a0, .string a1] w fun e w' => e = .returned (.int .i64 r) ∧ Below w.heap.size w w' := by
 unfold Zcx.f at h
 split at h
 ·rename_i h1
  obtain rfl := Option.some.inj h
  have := Zj9 h1
  generalize hc : a1.data.getD 0 0 = c at this ⊢
  subst this
  exact (Any.strings_Index_one Tryz.lays143 a0 c w).mono fun e w' ⟨he, hw⟩ => ⟨he, hw ▸ Below.refl _ _⟩
 ·cases h
def Zb0.f (s sep : ByteArray) : Option Int := if sep.size = 1 then some (Lib.countByte s.data.toList (sep.data.getD 0 0) : Nat) else none
theorem Zb0.calls (a0 a1 : ByteArray) (r : Int) (w : World) (h : Zb0.f a0 a1 = some r) :
  Calls Tryz.prog 82 #[.string a0, .string a1] w fun e w' => e = .returned (.int .i64 r) ∧ Below w.heap.size w w' := by
 unfold Zb0.f at h
 split at h
 ·rename_i h1
  obtain rfl := Option.some.inj h
  have := Zj9 h1
  generalize hc : a1.data.getD 0 0 = c at this ⊢
  subst this
  exact (Any.strings_Count_one Tryz.lays138 a0 c w).mono fun e w' ⟨he, hw⟩ => ⟨he, hw ▸ Below.refl _ _⟩
 ·cases h
def Zca.f (s cut : ByteArray) : Option ByteArray := if s.size ≤ 9223372036854775807 ∧ cut.size < 1000 ∧ cut.data.toList.all (·.toNat < 128) then some ⟨(Lib.trimS s.data.toList cut.data.toList).toArray⟩ else none
theorem Zca.calls (a0 a1 : ByteArray) (r : ByteArray) (w : World) (h : Zca.f a0 a1 = some r) :
  Calls Tryz.prog 106 #[.string a0, .string a1] w fun e w' => e = .returned (.string r) ∧ Below w.heap.size w w' := by
 unfold Zca.f at h
 split at h
 ·rename_i h1
  obtain ⟨h1, h2, h3⟩ := h1
  obtain rfl := Option.some.inj h
  exact Any.strings_Trim_laid Tryz.lays160 (by kernel_rfl) a0 a1 w h1 (by omega) (fun j b hb => by
   have := List.all_eq_true.1 h3 b (List.mem_of_getElem? hb)
   simpa using this)
 ·cases h
theorem Zdt {α : Type} {enc : α → Value} {h1 : ∀ x, (enc x).oneCell' = true} {w : World} {A : Option Addr} {n : Nat} {xs : List α} (h : (Kd.scalar enc h1).C w A n xs) :
  xs.length = n ∧ n ≤ 9223372036854775807 ∧ (xs = [] ∨ ∃ b off, A = some ⟨b, off, none⟩ ∧ b < w.heap.size ∧ ∀ (j : Nat) x, xs[j]? = some x → w.cell? ⟨b, off + j, none⟩ = some (enc x)) := by
 refine ⟨h.1, h.2.1, ?_⟩
 cases xs with
 | nil => exact .inl rfl
 | cons y ys =>
  refine .inr ?_
  obtain ⟨ad, e, hc⟩ := h.2.2 (by have := h.1; simp at this; omega)
  have hcell : ∀ (j : Nat) x, (y :: ys)[j]? = some x → w.cell? (ad.add j) = some (enc x) := by
   intro j x hj
   obtain ⟨c, hl, hK, hcc⟩ := hc j x hj
   obtain rfl : c = [enc x] := hK
   have := hcc 0 (enc x) rfl
   simpa [Kd.scalar] using this
  obtain ⟨b, off, sp⟩ := ad
  have h0 := hcell 0 y rfl
  have hsp : sp = none := by
   cases sp with
   | none => rfl
   | some s => simp [Addr.add, World.cell?] at h0; split at h0 <;> simp at h0
  subst hsp
  refine ⟨b, off, e, ?_, fun j x hj => ?_⟩
  ·rcases Nat.lt_or_ge b w.heap.size with hb | hb
   ·exact hb
   ·simp [Addr.add, World.cell?, Array.getElem?_eq_none hb] at h0
  ·have := hcell j x hj
   unfold Addr.add at this
   split at this
   ·rename_i hj0; subst hj0; simpa using this
   ·exact this
def strings_Join.f (l : List ByteArray) (sep : ByteArray) : Option ByteArray :=
 if l.length ≤ 140737488355328 ∧ (Lib.join (l.map (·.data.toList)) sep.data.toList).length ≤ 140737488355328 then some ⟨(Lib.join (l.map (·.data.toList)) sep.data.toList).toArray⟩ else none
theorem strings_Join.calls (A0 : Option Addr) (c0 : Nat) (l0 : List ByteArray) (a1 : ByteArray) (r : ByteArray) (w : World) (hr0 : Kd.C Kd.string w A0 l0.length l0) (hc0 : l0.length ≤ c0) (h : strings_Join.f l0 a1 = some r) :
  Calls Tryz.prog 107 #[.slice A0 l0.length c0, .string a1] w fun e w' => e = .returned (.string r) ∧ Below w.heap.size w w' := by
 unfold strings_Join.f at h
 split at h
 ·rename_i h1
  obtain rfl := Option.some.inj h
  obtain ⟨_, _, hx⟩ := Zdt hr0
  rcases hx with rfl | ⟨b, off, rfl, hb, hcell⟩
  ·exact (Any.strings_Join_none Tryz.lays156 Tryz.Builder_Extra_156 A0 c0 a1 w).mono fun e w' ⟨he, hw⟩ => ⟨he, hw ▸ Below.refl _ _⟩
  ·exact Any.strings_Join Tryz.lays156 Tryz.Builder_Extra_156 b off c0 l0 a1 w hcell hb h1.1 hc0 h1.2
 ·cases h
theorem field_tray0 (x y z : Value) (w : World) : Sem.run Tryz.prog (Instr.field 93 (.agg #[x, y, z]) 0) w = .ok x w := by
 have hu := Tryz.underlying93
 have ha := Tryz.isAgg3
 simp [Instr.field, run_underlying hu, part, asAgg, ha]
theorem field_tray1 (x y z : Value) (w : World) : Sem.run Tryz.prog (Instr.field 93 (.agg #[x, y, z]) 1) w = .ok y w := by
 have hu := Tryz.underlying93
 have ha := Tryz.isAgg3
 simp [Instr.field, run_underlying hu, part, asAgg, ha]
theorem field_tray2 (x y z : Value) (w : World) : Sem.run Tryz.prog (Instr.field 93 (.agg #[x, y, z]) 2) w = .ok z w := by
 have hu := Tryz.underlying93
 have ha := Tryz.isAgg50
 simp [Instr.field, run_underlying hu, part, asAgg, ha]
end Go.Proofs.YtjohcjkidoalkaaGreatDoor
