/- Contracts of functions and plain lemmas, for the last text. -/
import Derived.Test.YtjohcjkidoalkaaGreatDoorIrI
import Derived.SizedLaws
import Derived.ChangeSlices
import Derived.Test.YtjohcjkidoalkaaGreatDoorRows
import Derived.WalkKit
import Derived.ProofKit
import Derived.OpenShut
import Derived.ShutString
import Derived.ChangeOld
import Derived.Below
import Derived.LaidMore
import Derived.Stop.Joined
import Derived.Lay
import Derived.LaidOnce
import Derived.SevenTiedAt
import Derived.Test.YtjohcjkidoalkaaGreatDoorCards
import Derived.Test.YtjohcjkidoalkaaGreatDoorTie
import Derived.Lib.Strings
set_option linter.unusedVariables false
set_option linter.unusedSimpArgs false
namespace Go.Proofs.YtjohcjkidoalkaaGreatDoor.PA
open Go.RowKit Go.PW.PrintWords Go.PW.PrintLast Go.PW.PrintMore
attribute [local go_sem] Zbn Zbl Zb3 Zb2 Zbb Zba Zbm Zbk
def laws_FnExactIsReversible.j0 : Nat → List Int → List Int → List Int → List Int → Bool → Option (Bool)
 | 0, _, _, _, _, _ => none
 | k + 1, x1, x2, x11, x12, x56 => if x56 = true then (some false) else ((Zaw.f k x1).bind fun t117 => ((Za6.f k x11 t117).bind fun t120 => (if t120 = true then ((Zaw.f k x2).bind fun t121 => ((Za6.f k x12 t121).bind fun t124 => (if t124 = true then (some true) else (some false)))) else (some false))))
def laws_FnExactIsReversible.f (k : Nat) (a0 : ByteArray) (l1 : List Int) (l2 : List Int) (a3 : ByteArray) : Option (Bool) := if (a0.size : Int) > 1048576 then (some true) else (if (l1.length : Int) > 1048576 then (some true) else (if (l2.length : Int) > 1048576 then (some true) else (if (a3.size : Int) > 1048576 then (some true) else ((Zaw.f k l1).bind fun t101 => ((Zaw.f k l2).bind fun t104 => ((Za0.f k a0 t101 t104 a3).bind fun bt107 => ((Zaw.f k l1).bind fun t109 => ((Zaw.f k l2).bind fun t112 => ((Zbu.f k a0 t109 t112 a3).bind fun bt115 => (if (bt115.1 != bt107.1) = true then (laws_FnExactIsReversible.j0 k l1 l2 t109 t112 true) else (laws_FnExactIsReversible.j0 k l1 l2 t109 t112 (bt115.2 != bt107.2))))))))))))
set_option maxHeartbeats 8000000 in
set_option maxRecDepth 100000 in
theorem laws_FnExactIsReversible.calls (k : Nat) (a0 : ByteArray) (A1 : Option Addr) (c1 : Nat) (l1 : List Int) (A2 : Option Addr) (c2 : Nat) (l2 : List Int) (a3 : ByteArray) (r : Bool) (w : World) (hr1 : Kd.C (Kd.int .i64) w A1 l1.length l1) (hc1 : l1.length ≤ c1) (hr2 : Kd.C (Kd.int .i64) w A2 l2.length l2) (hc2 : l2.length ≤ c2) (h : laws_FnExactIsReversible.f k a0 l1 l2 a3 = some r) :
  Calls Tryz.prog 5 #[.string a0, .slice A1 l1.length c1, .slice A2 l2.length c2, .string a3] w fun e w' => e = .returned (.bool r) ∧ Below w.heap.size w w' := by
 have HR1 := Zad.mk hr1
 have HC1 := Zad.mk hc1
 clear hr1 hc1
 have HR2 := Zad.mk hr2
 have HC2 := Zad.mk hc2
 clear hr2 hc2
 have HB := Zad.mk (Below.refl w.heap.size w)
 have H : (if (a0.size : Int) > 1048576 then (some true) else (if (l1.length : Int) > 1048576 then (some true) else (if (l2.length : Int) > 1048576 then (some true) else (if (a3.size : Int) > 1048576 then (some true) else ((Zaw.f k l1).bind fun t101 => ((Zaw.f k l2).bind fun t104 => ((Za0.f k a0 t101 t104 a3).bind fun bt107 => ((Zaw.f k l1).bind fun t109 => ((Zaw.f k l2).bind fun t112 => ((Zbu.f k a0 t109 t112 a3).bind fun bt115 => (if (bt115.1 != bt107.1) = true then (laws_FnExactIsReversible.j0 k l1 l2 t109 t112 true) else (laws_FnExactIsReversible.j0 k l1 l2 t109 t112 (bt115.2 != bt107.2))))))))))))) = some r := h
 clear h
 by_cases c5 : (a0.size : Int) > 1048576
 ·rw [if_pos c5] at H
  have c5b0 : decide (1048576 < (a0.size : Int)) = true := decide_eq_true c5
  have c5b1 : decide (1048576 < a0.size) = true := decide_eq_true (by omega)
  clear c5
  obtain rfl := Option.some.inj H
  go_enter Tryz.func5, Tryz.ntmps5
  go_wp2
  go_ret
  exact ⟨by first | rfl | (simp [Zap, Zao] <;> rfl) | (simp [*, Zap, Zao] <;> rfl), by repeat (first | (with_reducible first | exact HB.out | apply Zac | apply Zaa | apply Zab) | exact HB.out)⟩
 ·rw [if_neg c5] at H
  have c5b0 : decide (1048576 < (a0.size : Int)) = false := decide_eq_false c5
  have c5b1 : decide (1048576 < a0.size) = false := decide_eq_false (by omega)
  clear c5
  by_cases c6 : (l1.length : Int) > 1048576
  ·rw [if_pos c6] at H
   have c6b0 : decide (1048576 < (l1.length : Int)) = true := decide_eq_true c6
   have c6b1 : decide (1048576 < l1.length) = true := decide_eq_true (by omega)
   clear c6
   obtain rfl := Option.some.inj H
   go_enter Tryz.func5, Tryz.ntmps5
   go_wp2
   go_ret
   exact ⟨by first | rfl | (simp [Zap, Zao] <;> rfl) | (simp [*, Zap, Zao] <;> rfl), by repeat (first | (with_reducible first | exact HB.out | apply Zac | apply Zaa | apply Zab) | exact HB.out)⟩
  ·rw [if_neg c6] at H
   have c6b0 : decide (1048576 < (l1.length : Int)) = false := decide_eq_false c6
   have c6b1 : decide (1048576 < l1.length) = false := decide_eq_false (by omega)
   clear c6
   by_cases c7 : (l2.length : Int) > 1048576
   ·rw [if_pos c7] at H
    have c7b0 : decide (1048576 < (l2.length : Int)) = true := decide_eq_true c7
    have c7b1 : decide (1048576 < l2.length) = true := decide_eq_true (by omega)
    clear c7
    obtain rfl := Option.some.inj H
    go_enter Tryz.func5, Tryz.ntmps5
    go_wp2
    go_ret
    exact ⟨by first | rfl | (simp [Zap, Zao] <;> rfl) | (simp [*, Zap, Zao] <;> rfl), by repeat (first | (with_reducible first | exact HB.out | apply Zac | apply Zaa | apply Zab) | exact HB.out)⟩
   ·rw [if_neg c7] at H
    have c7b0 : decide (1048576 < (l2.length : Int)) = false := decide_eq_false c7
    have c7b1 : decide (1048576 < l2.length) = false := decide_eq_false (by omega)
    clear c7
    by_cases c8 : (a3.size : Int) > 1048576
    ·rw [if_pos c8] at H
     have c8b0 : decide (1048576 < (a3.size : Int)) = true := decide_eq_true c8
     have c8b1 : decide (1048576 < a3.size) = true := decide_eq_true (by omega)
     clear c8
     obtain rfl := Option.some.inj H
     go_enter Tryz.func5, Tryz.ntmps5
     go_wp2
     go_ret
     exact ⟨by first | rfl | (simp [Zap, Zao] <;> rfl) | (simp [*, Zap, Zao] <;> rfl), by repeat (first | (with_reducible first | exact HB.out | apply Zac | apply Zaa | apply Zab) | exact HB.out)⟩
    ·rw [if_neg c8] at H
     have c8b0 : decide (1048576 < (a3.size : Int)) = false := decide_eq_false c8
     have c8b1 : decide (1048576 < a3.size) = false := decide_eq_false (by omega)
     clear c8
     replace H := Option.bind_eq_some_iff.mp H
     obtain ⟨t101, A90, H⟩ := H
     replace H : ((Zaw.f k l2).bind fun t104 => ((Za0.f k a0 t101 t104 a3).bind fun bt107 => ((Zaw.f k l1).bind fun t109 => ((Zaw.f k l2).bind fun t112 => ((Zbu.f k a0 t109 t112 a3).bind fun bt115 => (if (bt115.1 != bt107.1) = true then (laws_FnExactIsReversible.j0 k l1 l2 t109 t112 true) else (laws_FnExactIsReversible.j0 k l1 l2 t109 t112 (bt115.2 != bt107.2)))))))) = some r := H
     have A9 := Zad.mk A90
     clear A90
     replace H := Option.bind_eq_some_iff.mp H
     obtain ⟨t104, A100, H⟩ := H
     replace H : ((Za0.f k a0 t101 t104 a3).bind fun bt107 => ((Zaw.f k l1).bind fun t109 => ((Zaw.f k l2).bind fun t112 => ((Zbu.f k a0 t109 t112 a3).bind fun bt115 => (if (bt115.1 != bt107.1) = true then (laws_FnExactIsReversible.j0 k l1 l2 t109 t112 true) else (laws_FnExactIsReversible.j0 k l1 l2 t109 t112 (bt115.2 != bt107.2))))))) = some r := H
     have A10 := Zad.mk A100
     clear A100
     replace H := Option.bind_eq_some_iff.mp H
     obtain ⟨⟨t107, t108⟩, A110, H⟩ := H
     replace H : ((Zaw.f k l1).bind fun t109 => ((Zaw.f k l2).bind fun t112 => ((Zbu.f k a0 t109 t112 a3).bind fun bt115 => (if (bt115.1 != t107) = true then (laws_FnExactIsReversible.j0 k l1 l2 t109 t112 true) else (laws_FnExactIsReversible.j0 k l1 l2 t109 t112 (bt115.2 != t108)))))) = some r := H
     have A11 := Zad.mk A110
     clear A110
     replace H := Option.bind_eq_some_iff.mp H
     obtain ⟨t109, A120, H⟩ := H
     replace H : ((Zaw.f k l2).bind fun t112 => ((Zbu.f k a0 t109 t112 a3).bind fun bt115 => (if (bt115.1 != t107) = true then (laws_FnExactIsReversible.j0 k l1 l2 t109 t112 true) else (laws_FnExactIsReversible.j0 k l1 l2 t109 t112 (bt115.2 != t108))))) = some r := H
     have A12 := Zad.mk A120
     clear A120
     replace H := Option.bind_eq_some_iff.mp H
     obtain ⟨t112, A130, H⟩ := H
     replace H : ((Zbu.f k a0 t109 t112 a3).bind fun bt115 => (if (bt115.1 != t107) = true then (laws_FnExactIsReversible.j0 k l1 l2 t109 t112 true) else (laws_FnExactIsReversible.j0 k l1 l2 t109 t112 (bt115.2 != t108)))) = some r := H
     have A13 := Zad.mk A130
     clear A130
     replace H := Option.bind_eq_some_iff.mp H
     obtain ⟨⟨t115, t116⟩, A140, H⟩ := H
     replace H : (if (t115 != t107) = true then (laws_FnExactIsReversible.j0 k l1 l2 t109 t112 true) else (laws_FnExactIsReversible.j0 k l1 l2 t109 t112 (t116 != t108))) = some r := H
     have A14 := Zad.mk A140
     clear A140
     have HC15 := Zad.mk H
     clear H
     go_enter Tryz.func5, Tryz.ntmps5
     go_upto_region 13 with (first | ((with_reducible refine Zas (f := 18) rfl ?_); refine Zbg (some 30) rfl rfl Tryz.func18 (by kernel_rfl) rfl #[.slice A1 l1.length c1] rfl (by (try simp only [List.map_toArray, List.map_cons, List.map_nil]); first | done | rfl | (simp only [List.length_drop, List.length_take]; rfl)) ?_; (with_reducible refine (Zaw.calls k _ _ l1 t101 _ ?side1 ?side2 A9.out).mono ?_); (case side1 => repeat (first | exact HR1.out | (with_reducible refine Kd.C_alloc ?_ _) | (with_reducible refine Kd.C_drewN ?_ _) | (with_reducible refine Kd.C_drew ?_))); (case side2 => exact HC1.out); rintro e w16 ⟨v102, rfl, ho0, hb⟩; refine ⟨_, rfl, ?_⟩; have n0_ := Zad.mk (Kd.R_lower ho0 (Zak (by with_reducible repeat first | exact HB.out | apply Zac | apply Zaa | apply Zab))); have n1_ := Zad.mk (Zal (by with_reducible repeat first | exact HB.out | apply Zac | apply Zaa | apply Zab) hb); clear HB; have HO103 := n0_; have HB := n1_) | ((with_reducible refine Zas (f := 18) rfl ?_); refine Zbg (some 32) rfl rfl Tryz.func18 (by kernel_rfl) rfl #[.slice A2 l2.length c2] rfl (by (try simp only [List.map_toArray, List.map_cons, List.map_nil]); first | done | rfl | (simp only [List.length_drop, List.length_take]; rfl)) ?_; (with_reducible refine (Zaw.calls k _ _ l2 t104 _ ?side1 ?side2 A10.out).mono ?_); (case side1 => repeat (first | exact (Kd.C_below HR2.out HB.out) | (with_reducible refine Kd.C_alloc ?_ _) | (with_reducible refine Kd.C_drewN ?_ _) | (with_reducible refine Kd.C_drew ?_))); (case side2 => exact HC2.out); rintro e w17 ⟨v105, rfl, ho0, hb⟩; refine ⟨_, rfl, ?_⟩; have n0_ := Zad.mk (Kd.R_elder' (by (with_reducible repeat (first | apply Kd.R_alloc | apply Kd.R_drewN | apply Kd.R_drew)); exact HO103.out) (Kd.R_base ho0) hb); have n1_ := Zad.mk (Kd.R_lower (Kd.R_new' ho0 (Kd.R_lt (by (with_reducible repeat (first | apply Kd.R_alloc | apply Kd.R_drewN | apply Kd.R_drew)); exact HO103.out))) (Zak (by with_reducible repeat first | exact HB.out | apply Zac | apply Zaa | apply Zab))); have n2_ := Zad.mk (Zal (by with_reducible repeat first | exact HB.out | apply Zac | apply Zaa | apply Zab) hb); clear HO103; clear HB; have HO103 := n0_; have HO106 := n1_; have HB := n2_; obtain ⟨Ao18, co18, eo18⟩ := Kd.R_slice HO103.out; subst eo18; obtain ⟨Ao19, co19, eo19⟩ := Kd.R_slice HO106.out; subst eo19) | ((with_reducible refine Zas (f := 17) rfl ?_); refine Zbg (some 34) rfl rfl Tryz.func17 (by kernel_rfl) rfl #[.string a0, .slice Ao18 t101.length co18, .slice Ao19 t104.length co19, .string a3] rfl (by (try simp only [List.map_toArray, List.map_cons, List.map_nil]); first | done | rfl | (simp only [List.length_drop, List.length_take]; rfl)) ?_; (with_reducible refine (Za0.calls k a0 _ _ t101 _ _ t104 a3 t107 t108 _ ?side1 ?side2 ?side3 ?side4 A11.out).mono ?_); (case side1 => repeat (first | exact (Kd.R_reads' HO103.out).2.2 | (with_reducible refine Kd.C_alloc ?_ _) | (with_reducible refine Kd.C_drewN ?_ _) | (with_reducible refine Kd.C_drew ?_))); (case side2 => exact (Kd.R_reads' HO103.out).2.1); (case side3 => repeat (first | exact (Kd.R_reads' HO106.out).2.2 | (with_reducible refine Kd.C_alloc ?_ _) | (with_reducible refine Kd.C_drewN ?_ _) | (with_reducible refine Kd.C_drew ?_))); (case side4 => exact (Kd.R_reads' HO106.out).2.1); rintro e w20 ⟨rfl, hb⟩; refine ⟨_, rfl, ?_⟩; have n0_ := Zad.mk (Kd.R_below (by (with_reducible repeat (first | apply Kd.R_alloc | apply Kd.R_drewN | apply Kd.R_drew)); exact HO103.out) hb); have n1_ := Zad.mk (Kd.R_below (by (with_reducible repeat (first | apply Kd.R_alloc | apply Kd.R_drewN | apply Kd.R_drew)); exact HO106.out) hb); have n2_ := Zad.mk (Zal (by with_reducible repeat first | exact HB.out | apply Zac | apply Zaa | apply Zab) hb); clear HO103; clear HO106; clear HB; have HO103 := n0_; have HO106 := n1_; have HB := n2_) | ((with_reducible refine Zas (f := 18) rfl ?_); refine Zbg (some 38) rfl rfl Tryz.func18 (by kernel_rfl) rfl #[.slice A1 l1.length c1] rfl (by (try simp only [List.map_toArray, List.map_cons, List.map_nil]); first | done | rfl | (simp only [List.length_drop, List.length_take]; rfl)) ?_; (with_reducible refine (Zaw.calls k _ _ l1 t109 _ ?side1 ?side2 A12.out).mono ?_); (case side1 => repeat (first | exact (Kd.C_below HR1.out HB.out) | (with_reducible refine Kd.C_alloc ?_ _) | (with_reducible refine Kd.C_drewN ?_ _) | (with_reducible refine Kd.C_drew ?_))); (case side2 => exact HC1.out); rintro e w21 ⟨v110, rfl, ho0, hb⟩; refine ⟨_, rfl, ?_⟩; have n0_ := Zad.mk (Kd.R_elder' (by (with_reducible repeat (first | apply Kd.R_alloc | apply Kd.R_drewN | apply Kd.R_drew)); exact HO103.out) (Kd.R_base ho0) hb); have n1_ := Zad.mk (Kd.R_elder' (by (with_reducible repeat (first | apply Kd.R_alloc | apply Kd.R_drewN | apply Kd.R_drew)); exact HO106.out) (Kd.R_base ho0) hb); have n2_ := Zad.mk (Kd.R_lower (Kd.R_new' (Kd.R_new' ho0 (Kd.R_lt (by (with_reducible repeat (first | apply Kd.R_alloc | apply Kd.R_drewN | apply Kd.R_drew)); exact HO103.out))) (Kd.R_lt (by (with_reducible repeat (first | apply Kd.R_alloc | apply Kd.R_drewN | apply Kd.R_drew)); exact HO106.out))) (Zak (by with_reducible repeat first | exact HB.out | apply Zac | apply Zaa | apply Zab))); have n3_ := Zad.mk (Zal (by with_reducible repeat first | exact HB.out | apply Zac | apply Zaa | apply Zab) hb); clear HO103; clear HO106; clear HB; have HO103 := n0_; have HO106 := n1_; have HO111 := n2_; have HB := n3_) | ((with_reducible refine Zas (f := 18) rfl ?_); refine Zbg (some 40) rfl rfl Tryz.func18 (by kernel_rfl) rfl #[.slice A2 l2.length c2] rfl (by (try simp only [List.map_toArray, List.map_cons, List.map_nil]); first | done | rfl | (simp only [List.length_drop, List.length_take]; rfl)) ?_; (with_reducible refine (Zaw.calls k _ _ l2 t112 _ ?side1 ?side2 A13.out).mono ?_); (case side1 => repeat (first | exact (Kd.C_below HR2.out HB.out) | (with_reducible refine Kd.C_alloc ?_ _) | (with_reducible refine Kd.C_drewN ?_ _) | (with_reducible refine Kd.C_drew ?_))); (case side2 => exact HC2.out); rintro e w22 ⟨v113, rfl, ho0, hb⟩; refine ⟨_, rfl, ?_⟩; have n0_ := Zad.mk (Kd.R_elder' (by (with_reducible repeat (first | apply Kd.R_alloc | apply Kd.R_drewN | apply Kd.R_drew)); exact HO103.out) (Kd.R_base ho0) hb); have n1_ := Zad.mk (Kd.R_elder' (by (with_reducible repeat (first | apply Kd.R_alloc | apply Kd.R_drewN | apply Kd.R_drew)); exact HO106.out) (Kd.R_base ho0) hb); have n2_ := Zad.mk (Kd.R_elder' (by (with_reducible repeat (first | apply Kd.R_alloc | apply Kd.R_drewN | apply Kd.R_drew)); exact HO111.out) (Kd.R_base ho0) hb); have n3_ := Zad.mk (Kd.R_lower (Kd.R_new' (Kd.R_new' (Kd.R_new' ho0 (Kd.R_lt (by (with_reducible repeat (first | apply Kd.R_alloc | apply Kd.R_drewN | apply Kd.R_drew)); exact HO103.out))) (Kd.R_lt (by (with_reducible repeat (first | apply Kd.R_alloc | apply Kd.R_drewN | apply Kd.R_drew)); exact HO106.out))) (Kd.R_lt (by (with_reducible repeat (first | apply Kd.R_alloc | apply Kd.R_drewN | apply Kd.R_drew)); exact HO111.out))) (Zak (by with_reducible repeat first | exact HB.out | apply Zac | apply Zaa | apply Zab))); have n4_ := Zad.mk (Zal (by with_reducible repeat first | exact HB.out | apply Zac | apply Zaa | apply Zab) hb); clear HO103; clear HO106; clear HO111; clear HB; have HO103 := n0_; have HO106 := n1_; have HO111 := n2_; have HO114 := n3_; have HB := n4_; obtain ⟨Ao23, co23, eo23⟩ := Kd.R_slice HO111.out; subst eo23; obtain ⟨Ao24, co24, eo24⟩ := Kd.R_slice HO114.out; subst eo24) | ((with_reducible refine Zas (f := 19) rfl ?_); refine Zbg (some 46) rfl rfl Tryz.func19 (by kernel_rfl) rfl #[.string a0, .slice Ao23 t109.length co23, .slice Ao24 t112.length co24, .string a3] rfl (by (try simp only [List.map_toArray, List.map_cons, List.map_nil]); first | done | rfl | (simp only [List.length_drop, List.length_take]; rfl)) ?_; (with_reducible refine (Zbu.calls k a0 _ _ t109 _ _ t112 a3 t115 t116 _ ?side1 ?side2 ?side3 ?side4 A14.out).mono ?_); (case side1 => repeat (first | exact (Kd.R_reads' HO111.out).2.2 | (with_reducible refine Kd.C_alloc ?_ _) | (with_reducible refine Kd.C_drewN ?_ _) | (with_reducible refine Kd.C_drew ?_))); (case side2 => exact (Kd.R_reads' HO111.out).2.1); (case side3 => repeat (first | exact (Kd.R_reads' HO114.out).2.2 | (with_reducible refine Kd.C_alloc ?_ _) | (with_reducible refine Kd.C_drewN ?_ _) | (with_reducible refine Kd.C_drew ?_))); (case side4 => exact (Kd.R_reads' HO114.out).2.1); rintro e w25 ⟨rfl, hb⟩; refine ⟨_, rfl, ?_⟩; have n0_ := Zad.mk (Kd.R_below (by (with_reducible repeat (first | apply Kd.R_alloc | apply Kd.R_drewN | apply Kd.R_drew)); exact HO103.out) hb); have n1_ := Zad.mk (Kd.R_below (by (with_reducible repeat (first | apply Kd.R_alloc | apply Kd.R_drewN | apply Kd.R_drew)); exact HO106.out) hb); have n2_ := Zad.mk (Kd.R_below (by (with_reducible repeat (first | apply Kd.R_alloc | apply Kd.R_drewN | apply Kd.R_drew)); exact HO111.out) hb); have n3_ := Zad.mk (Kd.R_below (by (with_reducible repeat (first | apply Kd.R_alloc | apply Kd.R_drewN | apply Kd.R_drew)); exact HO114.out) hb); have n4_ := Zad.mk (Zal (by with_reducible repeat first | exact HB.out | apply Zac | apply Zaa | apply Zab) hb); clear HO103; clear HO106; clear HO111; clear HO114; clear HB; have HO103 := n0_; have HO106 := n1_; have HO111 := n2_; have HO114 := n3_; have HB := n4_))
     (try simp only [Act.put, List.setIfInBounds_toArray, List.set_cons_zero, List.set_cons_succ])
     go_cut [56] (fun v56 wc => ∃ (kq : Nat) (x56_14 : Bool), v56 = .bool x56_14 ∧ Zad (laws_FnExactIsReversible.j0 kq l1 l2 t109 t112 x56_14 = some r) ∧ Zad (kq ≤ k) ∧ Zad (Kd.R (Kd.int .i64) 3 wc w.heap.size (fun k_ => some k_ ≠ ((.slice Ao24 t112.length co24) : Value).ownBlock) (.slice Ao23 t109.length co23) t109) ∧ Zad (Kd.R (Kd.int .i64) 3 wc w.heap.size (fun k_ => some k_ ≠ ((.slice Ao23 t109.length co23) : Value).ownBlock) (.slice Ao24 t112.length co24) t112) ∧ Zad (Below w.heap.size w wc))
     case first =>
      have H := HC15.out
      clear HC15
      by_cases c26 : (t115 != t107) = true
      ·rw [if_pos c26] at H
       have c26b0 : (t115 != t107) = true := c26
       (try (have c26b1 : decide (t115 = t107) = false := by simpa using c26))
       (try (have c26b2 : (t115 == t107) = false := by simpa using c26))
       (try (have c26b3 : ¬ (t115 = t107) := by simpa using c26))
       clear c26
       (first | rw [c26b0] | (simp only [i64_w, i32_w]; rw [c26b0]) | skip)
       have H' := Zad.mk H
       clear H
       go_wp2
       go_meet
       case rel => exact ⟨_, (true), (by first | rfl | (simp; done) | (simp [*]; done)), H', ⟨by first | omega | exact Nat.le_refl _⟩, ⟨by (with_reducible repeat (first | apply Kd.R_alloc | apply Kd.R_drewN | apply Kd.R_drew)); exact Kd.R_mono HO111.out (fun _ hk => hk.2)⟩, ⟨by (with_reducible repeat (first | apply Kd.R_alloc | apply Kd.R_drewN | apply Kd.R_drew)); exact Kd.R_mono HO114.out (fun _ hk => hk.2)⟩, ⟨by with_reducible repeat first | exact HB.out | apply Zac | apply Zaa | apply Zab⟩⟩
      ·rw [if_neg c26] at H
       have c26b0 : (t115 != t107) = false := by simpa using c26
       (try (have c26b1 : decide (t115 = t107) = true := by simpa using c26))
       (try (have c26b2 : (t115 == t107) = true := by simpa using c26))
       clear c26
       (first | rw [c26b0] | (simp only [i64_w, i32_w]; rw [c26b0]) | skip)
       have H' := Zad.mk H
       clear H
       go_wp2
       go_meet
       case rel => exact ⟨_, ((t116 != t108)), (by first | rfl | (simp; done) | (simp [*]; done)), H', ⟨by first | omega | exact Nat.le_refl _⟩, ⟨by (with_reducible repeat (first | apply Kd.R_alloc | apply Kd.R_drewN | apply Kd.R_drew)); exact Kd.R_mono HO111.out (fun _ hk => hk.2)⟩, ⟨by (with_reducible repeat (first | apply Kd.R_alloc | apply Kd.R_drewN | apply Kd.R_drew)); exact Kd.R_mono HO114.out (fun _ hk => hk.2)⟩, ⟨by with_reducible repeat first | exact HB.out | apply Zac | apply Zaa | apply Zab⟩⟩
     case rest =>
      clear HC15
      obtain ⟨kq, x56_14, rfl, HA, HJ14, HO_11, HO_12, HB⟩ := hcut
      cases kq with
      | zero => exact absurd HA.out (by simp [laws_FnExactIsReversible.j0])
      | succ kj14 =>
       have H := HA.out
       clear HA
       simp only [laws_FnExactIsReversible.j0] at H
       by_cases c27 : x56_14 = true
       ·subst c27
        have H1 : (some false) = some r := by rw [if_pos rfl] at H; exact H
        clear H
        have H := H1
        clear H1
        obtain rfl := Option.some.inj H
        go_wp2
        go_ret
        exact ⟨by first | rfl | (simp [Zap, Zao] <;> rfl) | (simp [*, Zap, Zao] <;> rfl), by repeat (first | (with_reducible first | exact HB.out | apply Zac | apply Zaa | apply Zab) | exact HB.out)⟩
       ·replace c27 := Bool.eq_false_iff.mpr c27
        subst c27
        have H1 : ((Zaw.f kj14 l1).bind fun t117 => ((Za6.f kj14 t109 t117).bind fun t120 => (if t120 = true then ((Zaw.f kj14 l2).bind fun t121 => ((Za6.f kj14 t112 t121).bind fun t124 => (if t124 = true then (some true) else (some false)))) else (some false)))) = some r := by rw [if_neg (show ¬ (false = true) by decide)] at H; exact H
        clear H
        have H := H1
        clear H1
        replace H := Option.bind_eq_some_iff.mp H
        obtain ⟨t117, A280, H⟩ := H
        replace H : ((Za6.f kj14 t109 t117).bind fun t120 => (if t120 = true then ((Zaw.f kj14 l2).bind fun t121 => ((Za6.f kj14 t112 t121).bind fun t124 => (if t124 = true then (some true) else (some false)))) else (some false))) = some r := H
        have A28 := Zad.mk A280
        clear A280
        replace H := Option.bind_eq_some_iff.mp H
        obtain ⟨t120, A290, H⟩ := H
        replace H : (if t120 = true then ((Zaw.f kj14 l2).bind fun t121 => ((Za6.f kj14 t112 t121).bind fun t124 => (if t124 = true then (some true) else (some false)))) else (some false)) = some r := H
        have A29 := Zad.mk A290
        clear A290
        by_cases c30 : t120 = true
        ·subst c30
         have H1 : ((Zaw.f kj14 l2).bind fun t121 => ((Za6.f kj14 t112 t121).bind fun t124 => (if t124 = true then (some true) else (some false)))) = some r := by rw [if_pos rfl] at H; exact H
         clear H
         have H := H1
         clear H1
         replace H := Option.bind_eq_some_iff.mp H
         obtain ⟨t121, A310, H⟩ := H
         replace H : ((Za6.f kj14 t112 t121).bind fun t124 => (if t124 = true then (some true) else (some false))) = some r := H
         have A31 := Zad.mk A310
         clear A310
         replace H := Option.bind_eq_some_iff.mp H
         obtain ⟨t124, A320, H⟩ := H
         replace H : (if t124 = true then (some true) else (some false)) = some r := H
         have A32 := Zad.mk A320
         clear A320
         by_cases c33 : t124 = true
         ·subst c33
          have H1 : (some true) = some r := by rw [if_pos rfl] at H; exact H
          clear H
          have H := H1
          clear H1
          obtain rfl := Option.some.inj H
          go_wp2_with (first | ((with_reducible refine Zas (f := 18) rfl ?_); refine Zbg (some 59) rfl rfl Tryz.func18 (by kernel_rfl) rfl #[.slice A1 l1.length c1] rfl (by (try simp only [List.map_toArray, List.map_cons, List.map_nil]); first | done | rfl | (simp only [List.length_drop, List.length_take]; rfl)) ?_; (with_reducible refine (Zaw.calls kj14 _ _ l1 t117 _ ?side1 ?side2 A28.out).mono ?_); (case side1 => repeat (first | exact (Kd.C_below HR1.out HB.out) | (with_reducible refine Kd.C_alloc ?_ _) | (with_reducible refine Kd.C_drewN ?_ _) | (with_reducible refine Kd.C_drew ?_))); (case side2 => exact HC1.out); rintro e w34 ⟨v118, rfl, ho0, hb⟩; refine ⟨_, rfl, ?_⟩; have n0_ := Zad.mk (Kd.R_elder' (by (with_reducible repeat (first | apply Kd.R_alloc | apply Kd.R_drewN | apply Kd.R_drew)); exact HO_11.out) (Kd.R_base ho0) hb); have n1_ := Zad.mk (Kd.R_elder' (by (with_reducible repeat (first | apply Kd.R_alloc | apply Kd.R_drewN | apply Kd.R_drew)); exact HO_12.out) (Kd.R_base ho0) hb); have n2_ := Zad.mk (Kd.R_lower (Kd.R_new' (Kd.R_new' ho0 (Kd.R_lt (by (with_reducible repeat (first | apply Kd.R_alloc | apply Kd.R_drewN | apply Kd.R_drew)); exact HO_11.out))) (Kd.R_lt (by (with_reducible repeat (first | apply Kd.R_alloc | apply Kd.R_drewN | apply Kd.R_drew)); exact HO_12.out))) (Zak (by with_reducible repeat first | exact HB.out | apply Zac | apply Zaa | apply Zab))); have n3_ := Zad.mk (Zal (by with_reducible repeat first | exact HB.out | apply Zac | apply Zaa | apply Zab) hb); clear HO_11; clear HO_12; clear HB; have HO_11 := n0_; have HO_12 := n1_; have HO119 := n2_; have HB := n3_; obtain ⟨Ao35, co35, eo35⟩ := Kd.R_slice HO119.out; subst eo35) | ((with_reducible refine Zas (f := 20) rfl ?_); refine Zbg (some 60) rfl rfl Tryz.func20 (by kernel_rfl) rfl #[.slice Ao23 t109.length co23, .slice Ao35 t117.length co35] rfl (by (try simp only [List.map_toArray, List.map_cons, List.map_nil]); first | done | rfl | (simp only [List.length_drop, List.length_take]; rfl)) ?_; (with_reducible refine (Za6.calls kj14 _ _ t109 _ _ t117 true _ ?side1 ?side2 ?side3 ?side4 A29.out).mono ?_); (case side1 => repeat (first | exact (Kd.R_reads' HO_11.out).2.2 | (with_reducible refine Kd.C_alloc ?_ _) | (with_reducible refine Kd.C_drewN ?_ _) | (with_reducible refine Kd.C_drew ?_))); (case side2 => exact (Kd.R_reads' HO_11.out).2.1); (case side3 => repeat (first | exact (Kd.R_reads' HO119.out).2.2 | (with_reducible refine Kd.C_alloc ?_ _) | (with_reducible refine Kd.C_drewN ?_ _) | (with_reducible refine Kd.C_drew ?_))); (case side4 => exact (Kd.R_reads' HO119.out).2.1); rintro e w' ⟨rfl, ⟨nd, rfl⟩⟩; refine ⟨_, rfl, ?_⟩) | ((with_reducible refine Zas (f := 18) rfl ?_); refine Zbg (some 64) rfl rfl Tryz.func18 (by kernel_rfl) rfl #[.slice A2 l2.length c2] rfl (by (try simp only [List.map_toArray, List.map_cons, List.map_nil]); first | done | rfl | (simp only [List.length_drop, List.length_take]; rfl)) ?_; (with_reducible refine (Zaw.calls kj14 _ _ l2 t121 _ ?side1 ?side2 A31.out).mono ?_); (case side1 => repeat (first | exact (Kd.C_below HR2.out (by with_reducible repeat first | exact HB.out | apply Zac | apply Zaa | apply Zab)) | (with_reducible refine Kd.C_alloc ?_ _) | (with_reducible refine Kd.C_drewN ?_ _) | (with_reducible refine Kd.C_drew ?_))); (case side2 => exact HC2.out); rintro e w36 ⟨v122, rfl, ho0, hb⟩; refine ⟨_, rfl, ?_⟩; have n0_ := Zad.mk (Kd.R_elder' (by (with_reducible repeat (first | apply Kd.R_alloc | apply Kd.R_drewN | apply Kd.R_drew)); exact HO_11.out) (Kd.R_base ho0) hb); have n1_ := Zad.mk (Kd.R_elder' (by (with_reducible repeat (first | apply Kd.R_alloc | apply Kd.R_drewN | apply Kd.R_drew)); exact HO_12.out) (Kd.R_base ho0) hb); have n2_ := Zad.mk (Kd.R_elder' (by (with_reducible repeat (first | apply Kd.R_alloc | apply Kd.R_drewN | apply Kd.R_drew)); exact HO119.out) (Kd.R_base ho0) hb); have n3_ := Zad.mk (Kd.R_lower (Kd.R_new' (Kd.R_new' (Kd.R_new' ho0 (Kd.R_lt (by (with_reducible repeat (first | apply Kd.R_alloc | apply Kd.R_drewN | apply Kd.R_drew)); exact HO_11.out))) (Kd.R_lt (by (with_reducible repeat (first | apply Kd.R_alloc | apply Kd.R_drewN | apply Kd.R_drew)); exact HO_12.out))) (Kd.R_lt (by (with_reducible repeat (first | apply Kd.R_alloc | apply Kd.R_drewN | apply Kd.R_drew)); exact HO119.out))) (Zak (by with_reducible repeat first | exact HB.out | apply Zac | apply Zaa | apply Zab))); have n4_ := Zad.mk (Zal (by with_reducible repeat first | exact HB.out | apply Zac | apply Zaa | apply Zab) hb); clear HO_11; clear HO_12; clear HO119; clear HB; have HO_11 := n0_; have HO_12 := n1_; have HO119 := n2_; have HO123 := n3_; have HB := n4_; obtain ⟨Ao37, co37, eo37⟩ := Kd.R_slice HO123.out; subst eo37) | ((with_reducible refine Zas (f := 20) rfl ?_); refine Zbg (some 65) rfl rfl Tryz.func20 (by kernel_rfl) rfl #[.slice Ao24 t112.length co24, .slice Ao37 t121.length co37] rfl (by (try simp only [List.map_toArray, List.map_cons, List.map_nil]); first | done | rfl | (simp only [List.length_drop, List.length_take]; rfl)) ?_; (with_reducible refine (Za6.calls kj14 _ _ t112 _ _ t121 true _ ?side1 ?side2 ?side3 ?side4 A32.out).mono ?_); (case side1 => repeat (first | exact (Kd.R_reads' HO_12.out).2.2 | (with_reducible refine Kd.C_alloc ?_ _) | (with_reducible refine Kd.C_drewN ?_ _) | (with_reducible refine Kd.C_drew ?_))); (case side2 => exact (Kd.R_reads' HO_12.out).2.1); (case side3 => repeat (first | exact (Kd.R_reads' HO123.out).2.2 | (with_reducible refine Kd.C_alloc ?_ _) | (with_reducible refine Kd.C_drewN ?_ _) | (with_reducible refine Kd.C_drew ?_))); (case side4 => exact (Kd.R_reads' HO123.out).2.1); rintro e w' ⟨rfl, ⟨nd, rfl⟩⟩; refine ⟨_, rfl, ?_⟩))
          go_ret
          exact ⟨by first | rfl | (simp [Zap, Zao] <;> rfl) | (simp [*, Zap, Zao] <;> rfl), by repeat (first | (with_reducible first | exact HB.out | apply Zac | apply Zaa | apply Zab) | exact HB.out)⟩
         ·replace c33 := Bool.eq_false_iff.mpr c33
          subst c33
          have H1 : (some false) = some r := by rw [if_neg (show ¬ (false = true) by decide)] at H; exact H
          clear H
          have H := H1
          clear H1
          obtain rfl := Option.some.inj H
          go_wp2_with (first | ((with_reducible refine Zas (f := 18) rfl ?_); refine Zbg (some 59) rfl rfl Tryz.func18 (by kernel_rfl) rfl #[.slice A1 l1.length c1] rfl (by (try simp only [List.map_toArray, List.map_cons, List.map_nil]); first | done | rfl | (simp only [List.length_drop, List.length_take]; rfl)) ?_; (with_reducible refine (Zaw.calls kj14 _ _ l1 t117 _ ?side1 ?side2 A28.out).mono ?_); (case side1 => repeat (first | exact (Kd.C_below HR1.out HB.out) | (with_reducible refine Kd.C_alloc ?_ _) | (with_reducible refine Kd.C_drewN ?_ _) | (with_reducible refine Kd.C_drew ?_))); (case side2 => exact HC1.out); rintro e w38 ⟨v118, rfl, ho0, hb⟩; refine ⟨_, rfl, ?_⟩; have n0_ := Zad.mk (Kd.R_elder' (by (with_reducible repeat (first | apply Kd.R_alloc | apply Kd.R_drewN | apply Kd.R_drew)); exact HO_11.out) (Kd.R_base ho0) hb); have n1_ := Zad.mk (Kd.R_elder' (by (with_reducible repeat (first | apply Kd.R_alloc | apply Kd.R_drewN | apply Kd.R_drew)); exact HO_12.out) (Kd.R_base ho0) hb); have n2_ := Zad.mk (Kd.R_lower (Kd.R_new' (Kd.R_new' ho0 (Kd.R_lt (by (with_reducible repeat (first | apply Kd.R_alloc | apply Kd.R_drewN | apply Kd.R_drew)); exact HO_11.out))) (Kd.R_lt (by (with_reducible repeat (first | apply Kd.R_alloc | apply Kd.R_drewN | apply Kd.R_drew)); exact HO_12.out))) (Zak (by with_reducible repeat first | exact HB.out | apply Zac | apply Zaa | apply Zab))); have n3_ := Zad.mk (Zal (by with_reducible repeat first | exact HB.out | apply Zac | apply Zaa | apply Zab) hb); clear HO_11; clear HO_12; clear HB; have HO_11 := n0_; have HO_12 := n1_; have HO119 := n2_; have HB := n3_; obtain ⟨Ao39, co39, eo39⟩ := Kd.R_slice HO119.out; subst eo39) | ((with_reducible refine Zas (f := 20) rfl ?_); refine Zbg (some 60) rfl rfl Tryz.func20 (by kernel_rfl) rfl #[.slice Ao23 t109.length co23, .slice Ao39 t117.length co39] rfl (by (try simp only [List.map_toArray, List.map_cons, List.map_nil]); first | done | rfl | (simp only [List.length_drop, List.length_take]; rfl)) ?_; (with_reducible refine (Za6.calls kj14 _ _ t109 _ _ t117 true _ ?side1 ?side2 ?side3 ?side4 A29.out).mono ?_); (case side1 => repeat (first | exact (Kd.R_reads' HO_11.out).2.2 | (with_reducible refine Kd.C_alloc ?_ _) | (with_reducible refine Kd.C_drewN ?_ _) | (with_reducible refine Kd.C_drew ?_))); (case side2 => exact (Kd.R_reads' HO_11.out).2.1); (case side3 => repeat (first | exact (Kd.R_reads' HO119.out).2.2 | (with_reducible refine Kd.C_alloc ?_ _) | (with_reducible refine Kd.C_drewN ?_ _) | (with_reducible refine Kd.C_drew ?_))); (case side4 => exact (Kd.R_reads' HO119.out).2.1); rintro e w' ⟨rfl, ⟨nd, rfl⟩⟩; refine ⟨_, rfl, ?_⟩) | ((with_reducible refine Zas (f := 18) rfl ?_); refine Zbg (some 64) rfl rfl Tryz.func18 (by kernel_rfl) rfl #[.slice A2 l2.length c2] rfl (by (try simp only [List.map_toArray, List.map_cons, List.map_nil]); first | done | rfl | (simp only [List.length_drop, List.length_take]; rfl)) ?_; (with_reducible refine (Zaw.calls kj14 _ _ l2 t121 _ ?side1 ?side2 A31.out).mono ?_); (case side1 => repeat (first | exact (Kd.C_below HR2.out (by with_reducible repeat first | exact HB.out | apply Zac | apply Zaa | apply Zab)) | (with_reducible refine Kd.C_alloc ?_ _) | (with_reducible refine Kd.C_drewN ?_ _) | (with_reducible refine Kd.C_drew ?_))); (case side2 => exact HC2.out); rintro e w40 ⟨v122, rfl, ho0, hb⟩; refine ⟨_, rfl, ?_⟩; have n0_ := Zad.mk (Kd.R_elder' (by (with_reducible repeat (first | apply Kd.R_alloc | apply Kd.R_drewN | apply Kd.R_drew)); exact HO_11.out) (Kd.R_base ho0) hb); have n1_ := Zad.mk (Kd.R_elder' (by (with_reducible repeat (first | apply Kd.R_alloc | apply Kd.R_drewN | apply Kd.R_drew)); exact HO_12.out) (Kd.R_base ho0) hb); have n2_ := Zad.mk (Kd.R_elder' (by (with_reducible repeat (first | apply Kd.R_alloc | apply Kd.R_drewN | apply Kd.R_drew)); exact HO119.out) (Kd.R_base ho0) hb); have n3_ := Zad.mk (Kd.R_lower (Kd.R_new' (Kd.R_new' (Kd.R_new' ho0 (Kd.R_lt (by (with_reducible repeat (first | apply Kd.R_alloc | apply Kd.R_drewN | apply Kd.R_drew)); exact HO_11.out))) (Kd.R_lt (by (with_reducible repeat (first | apply Kd.R_alloc | apply Kd.R_drewN | apply Kd.R_drew)); exact HO_12.out))) (Kd.R_lt (by (with_reducible repeat (first | apply Kd.R_alloc | apply Kd.R_drewN | apply Kd.R_drew)); exact HO119.out))) (Zak (by with_reducible repeat first | exact HB.out | apply Zac | apply Zaa | apply Zab))); have n4_ := Zad.mk (Zal (by with_reducible repeat first | exact HB.out | apply Zac | apply Zaa | apply Zab) hb); clear HO_11; clear HO_12; clear HO119; clear HB; have HO_11 := n0_; have HO_12 := n1_; have HO119 := n2_; have HO123 := n3_; have HB := n4_; obtain ⟨Ao41, co41, eo41⟩ := Kd.R_slice HO123.out; subst eo41) | ((with_reducible refine Zas (f := 20) rfl ?_); refine Zbg (some 65) rfl rfl Tryz.func20 (by kernel_rfl) rfl #[.slice Ao24 t112.length co24, .slice Ao41 t121.length co41] rfl (by (try simp only [List.map_toArray, List.map_cons, List.map_nil]); first | done | rfl | (simp only [List.length_drop, List.length_take]; rfl)) ?_; (with_reducible refine (Za6.calls kj14 _ _ t112 _ _ t121 false _ ?side1 ?side2 ?side3 ?side4 A32.out).mono ?_); (case side1 => repeat (first | exact (Kd.R_reads' HO_12.out).2.2 | (with_reducible refine Kd.C_alloc ?_ _) | (with_reducible refine Kd.C_drewN ?_ _) | (with_reducible refine Kd.C_drew ?_))); (case side2 => exact (Kd.R_reads' HO_12.out).2.1); (case side3 => repeat (first | exact (Kd.R_reads' HO123.out).2.2 | (with_reducible refine Kd.C_alloc ?_ _) | (with_reducible refine Kd.C_drewN ?_ _) | (with_reducible refine Kd.C_drew ?_))); (case side4 => exact (Kd.R_reads' HO123.out).2.1); rintro e w' ⟨rfl, ⟨nd, rfl⟩⟩; refine ⟨_, rfl, ?_⟩))
          go_ret
          exact ⟨by first | rfl | (simp [Zap, Zao] <;> rfl) | (simp [*, Zap, Zao] <;> rfl), by repeat (first | (with_reducible first | exact HB.out | apply Zac | apply Zaa | apply Zab) | exact HB.out)⟩
        ·replace c30 := Bool.eq_false_iff.mpr c30
         subst c30
         have H1 : (some false) = some r := by rw [if_neg (show ¬ (false = true) by decide)] at H; exact H
         clear H
         have H := H1
         clear H1
         obtain rfl := Option.some.inj H
         go_wp2_with (first | ((with_reducible refine Zas (f := 18) rfl ?_); refine Zbg (some 59) rfl rfl Tryz.func18 (by kernel_rfl) rfl #[.slice A1 l1.length c1] rfl (by (try simp only [List.map_toArray, List.map_cons, List.map_nil]); first | done | rfl | (simp only [List.length_drop, List.length_take]; rfl)) ?_; (with_reducible refine (Zaw.calls kj14 _ _ l1 t117 _ ?side1 ?side2 A28.out).mono ?_); (case side1 => repeat (first | exact (Kd.C_below HR1.out HB.out) | (with_reducible refine Kd.C_alloc ?_ _) | (with_reducible refine Kd.C_drewN ?_ _) | (with_reducible refine Kd.C_drew ?_))); (case side2 => exact HC1.out); rintro e w42 ⟨v118, rfl, ho0, hb⟩; refine ⟨_, rfl, ?_⟩; have n0_ := Zad.mk (Kd.R_elder' (by (with_reducible repeat (first | apply Kd.R_alloc | apply Kd.R_drewN | apply Kd.R_drew)); exact HO_11.out) (Kd.R_base ho0) hb); have n1_ := Zad.mk (Kd.R_elder' (by (with_reducible repeat (first | apply Kd.R_alloc | apply Kd.R_drewN | apply Kd.R_drew)); exact HO_12.out) (Kd.R_base ho0) hb); have n2_ := Zad.mk (Kd.R_lower (Kd.R_new' (Kd.R_new' ho0 (Kd.R_lt (by (with_reducible repeat (first | apply Kd.R_alloc | apply Kd.R_drewN | apply Kd.R_drew)); exact HO_11.out))) (Kd.R_lt (by (with_reducible repeat (first | apply Kd.R_alloc | apply Kd.R_drewN | apply Kd.R_drew)); exact HO_12.out))) (Zak (by with_reducible repeat first | exact HB.out | apply Zac | apply Zaa | apply Zab))); have n3_ := Zad.mk (Zal (by with_reducible repeat first | exact HB.out | apply Zac | apply Zaa | apply Zab) hb); clear HO_11; clear HO_12; clear HB; have HO_11 := n0_; have HO_12 := n1_; have HO119 := n2_; have HB := n3_; obtain ⟨Ao43, co43, eo43⟩ := Kd.R_slice HO119.out; subst eo43) | ((with_reducible refine Zas (f := 20) rfl ?_); refine Zbg (some 60) rfl rfl Tryz.func20 (by kernel_rfl) rfl #[.slice Ao23 t109.length co23, .slice Ao43 t117.length co43] rfl (by (try simp only [List.map_toArray, List.map_cons, List.map_nil]); first | done | rfl | (simp only [List.length_drop, List.length_take]; rfl)) ?_; (with_reducible refine (Za6.calls kj14 _ _ t109 _ _ t117 false _ ?side1 ?side2 ?side3 ?side4 A29.out).mono ?_); (case side1 => repeat (first | exact (Kd.R_reads' HO_11.out).2.2 | (with_reducible refine Kd.C_alloc ?_ _) | (with_reducible refine Kd.C_drewN ?_ _) | (with_reducible refine Kd.C_drew ?_))); (case side2 => exact (Kd.R_reads' HO_11.out).2.1); (case side3 => repeat (first | exact (Kd.R_reads' HO119.out).2.2 | (with_reducible refine Kd.C_alloc ?_ _) | (with_reducible refine Kd.C_drewN ?_ _) | (with_reducible refine Kd.C_drew ?_))); (case side4 => exact (Kd.R_reads' HO119.out).2.1); rintro e w' ⟨rfl, ⟨nd, rfl⟩⟩; refine ⟨_, rfl, ?_⟩))
         go_ret
         exact ⟨by first | rfl | (simp [Zap, Zao] <;> rfl) | (simp [*, Zap, Zao] <;> rfl), by repeat (first | (with_reducible first | exact HB.out | apply Zac | apply Zaa | apply Zab) | exact HB.out)⟩
def laws_FnExactIsReversible.Pure : Prop := ∀ (a0 : ByteArray) (l1 : List Int) (l2 : List Int) (a3 : ByteArray), a0.size ≤ 140737488351232 → l1.length ≤ maxLen → l1.length * 8 ≤ 140737488351232 → (∀ x ∈ l1, (Lit.int .i64 x).wf = true) → l2.length ≤ maxLen → l2.length * 8 ≤ 140737488351232 → (∀ x ∈ l2, (Lit.int .i64 x).wf = true) → a3.size ≤ 140737488351232 → ∃ k, laws_FnExactIsReversible.f k a0 l1 l2 a3 = some true
theorem laws_FnExactIsReversible.walk (P : laws_FnExactIsReversible.Pure) (a0 : ByteArray) (a1 : Option Addr) (len1 cap1 : Nat) (z1 : List Int) (a2 : Option Addr) (len2 cap2 : Nat) (z2 : List Int) (a3 : ByteArray) (w : World) (w0 : a0.size ≤ 140737488351232) (w1 : (a1 = none ∧ len1 = 0 ∧ cap1 = 0 ∧ z1 = []) ∨ ∃ x, a1 = some x ∧ len1 ≤ cap1 ∧ cap1 ≤ maxLen ∧ z1.length = cap1 ∧ (∀ i, i < z1.length → w.cell? (x.add i) = some (.int .i64 (z1.getD i 0))) ∧ ∀ n ∈ z1, (Lit.int .i64 n).wf = true) (y1 : len1 * 8 ≤ 140737488351232) (w2 : (a2 = none ∧ len2 = 0 ∧ cap2 = 0 ∧ z2 = []) ∨ ∃ x, a2 = some x ∧ len2 ≤ cap2 ∧ cap2 ≤ maxLen ∧ z2.length = cap2 ∧ (∀ i, i < z2.length → w.cell? (x.add i) = some (.int .i64 (z2.getD i 0))) ∧ ∀ n ∈ z2, (Lit.int .i64 n).wf = true) (y2 : len2 * 8 ≤ 140737488351232) (w3 : a3.size ≤ 140737488351232) :
  Calls Tryz.prog 5 #[.string a0, .slice a1 len1 cap1, .slice a2 len2 cap2, .string a3] w fun e w' => e = .returned (.bool true) ∧ Below w.heap.size w w' := by
 obtain ⟨l1, rfl, hr1, hm1, hw1, hc1⟩ := Zdw.ofRowC w1
 obtain ⟨l2, rfl, hr2, hm2, hw2, hc2⟩ := Zdw.ofRowC w2
 obtain ⟨k, h⟩ := P a0 l1 l2 a3 w0 hm1 y1 hw1 hm2 y2 hw2 w3
 refine (laws_FnExactIsReversible.calls k a0 _ _ l1 _ _ l2 a3 true w (Kd.C_of_reads (d := (0 : Int)) (h1 := fun _ => rfl) hr1) hc1 (Kd.C_of_reads (d := (0 : Int)) (h1 := fun _ => rfl) hr2) hc2 h).mono ?_
 rintro e w' ⟨rfl, hd⟩
 exact ⟨rfl, hd⟩
end Go.Proofs.YtjohcjkidoalkaaGreatDoor.PA
namespace Go.PW.PrintWords
open Go.ChangeShapes Go.WideShapes
theorem sized_ints {H : Type} {enc : TypeId × Value → H} {P : Program} {W : World} {base : Nat} {spare : Nat → Bool} {held : Bool} {t e : TypeId} {k : IntKind} {a : Option Addr} {len cap : Nat} {d : DataW H} {ps : List MemPlace} {ts : List TypeId} {ds : List (DataW H)} {j : Nat}
  (hsz : (DataW.weightsEach P ts ds).all (· ≤ reachBytes) = true) (ht : ts[j]? = some t) (hd : ds[j]? = some d) (hu : P.underlying t = some (.slice e)) (he : P.underlying e = some (.int k)) (hc : P.cellsOf e = 1) {B : Nat} (hB : P.bytesOf e = B)
  (h : DataW.Trod enc P W base spare held t (.slice a len cap) d ps) : len * B ≤ 140737488351232 := by
 obtain ⟨fuel, hf⟩ := h
 rcases open_ints hu he hc hf with ⟨hcs, _⟩ | ⟨x, l, c, zs, hcs, _, hl, _, hz, hx, _, _⟩
 ·simp [Value.cells] at hcs
  obtain ⟨rfl, rfl, rfl⟩ := hcs
  simp
 ·simp [Value.cells] at hcs
  obtain ⟨rfl, rfl, rfl⟩ := hcs
  obtain ⟨hx, _⟩ := Prod.mk.inj hx
  subst hx
  have z := sized_slice hsz ht hd hu
  rw [hB] at z
  have hl2 : len ≤ zs.length := by
   rw [hz]
   split
   ·exact hl
   ·exact Nat.le_refl _
  have h1 : (lits (H := H) k (zs.take len)).length + (lits (H := H) k (zs.drop len)).length = zs.length := by
   simp [lits]
   omega
  rw [h1] at z
  exact Nat.le_trans (Nat.mul_le_mul_right _ hl2) z
end Go.PW.PrintWords
namespace Go.Proofs.YtjohcjkidoalkaaGreatDoor.fnExactIsReversible
open Go.ChangeShapes Go.WideShapes Go.ChangeAt Go.RowKit
open Go.ChangeMaps (open_string shut_string)
theorem own : ownKnob Tryz.prog.godebug = none := by kernel_rfl
theorem Zln : laidOutB Tryz.prog = true := by kernel_rfl
def IsRow (k : IntKind) (w : World) (a : Option Addr) (len cap : Nat) (zs : List Int) : Prop :=
 (a = none ∧ len = 0 ∧ cap = 0 ∧ zs = []) ∨
 ∃ x, a = some x ∧ len ≤ cap ∧ cap ≤ maxLen ∧ zs.length = cap ∧ (∀ i, i < zs.length → w.cell? (x.add i) = some (.int k (zs.getD i 0))) ∧ ∀ n ∈ zs, (Lit.int k n).wf = true
set_option maxRecDepth 100000 in
theorem lifted (hP : PA.laws_FnExactIsReversible.Pure) (os : Os) (started : os.Started) (H : Type) (enc : TypeId × Value → H) :
  ReturnsInHanded {} Tryz.checked os 5 .any (fun w args => (Rows.fnExactIsReversibleSpec.pre enc Tryz.prog Tryz.f5 [] false w args ∧ laidMetH Tryz.prog Rows.fnExactIsReversibleRow.laid w) ∧ sizedMet enc Tryz.prog Tryz.f5 (OpenSpec.ofChange Rows.fnExactIsReversibleSpec) false w args)
   (Rows.fnExactIsReversibleSpec.post enc Tryz.prog Tryz.f5 false true false false) := by
 refine returnsInHanded_of_change_and (C := Tryz.checked) (X := fun w _ => laidMetH Tryz.prog Rows.fnExactIsReversibleRow.laid w) (fun _ _ _ hh h => h.of_heap hh) own started (by kernel_rfl) Tryz.func5
  (ChangeSpec.witness_shaped (enc := enc) (C := Tryz.checked) (os := os) (X := fun w _ => laidMetH Tryz.prog Rows.fnExactIsReversibleRow.laid w) false (World.laidAll Tryz.prog os Rows.fnExactIsReversibleRow.laid) #[.string ByteArray.empty, .slice none 0 0, .slice none 0 0, .string ByteArray.empty] 8 (World.laidAll_os _ _ _)
   (World.shaped_of_ZipB (by kernel_rfl) (by kernel_rfl)) (by kernel_rfl) (by kernel_rfl) (by kernel_rfl)
   (by rw [MakeChecks.laidMetH_plain _ _ _ (by kernel_rfl)]; exact laidMet_laidAll _ (by kernel_rfl) (by kernel_rfl))) ?_
 intro W base args ds gs before hval0 hW hcnd hsz0 _ _
 have hsz : (DataW.weightsEach Tryz.prog (Tryz.f5.params.toList ++ Rows.fnExactIsReversibleSpec.plain.varTypes Tryz.prog) (ds ++ gs)).all (· ≤ reachBytes) = true := hsz0
 have hval : ∀ (j : Nat) t v, Tryz.f5.params[j]? = some t → args[j]? = some v → Value.okWide Tryz.prog W .any base t v := hval0
 have hW' := hW
 obtain ⟨p, q, hA0, hV, rfl, hfz, hnd⟩ := hW
 have hA : DataW.TrodAll enc Tryz.prog W 0 (fun _ => true) true Tryz.f5.params.toList args.toList ds p := hA0
 rw [Tryz.params5] at hA hval hsz
 obtain ⟨v0, vs0, d0, ds0, p0, q0, hargs, rfl, rfl, h0, r0⟩ := trodAll_cons hA
 obtain ⟨v1, vs1, d1, ds1, p1, q1, rfl, rfl, rfl, h1, r1⟩ := trodAll_cons r0
 obtain ⟨v2, vs2, d2, ds2, p2, q2, rfl, rfl, rfl, h2, r2⟩ := trodAll_cons r1
 obtain ⟨v3, vs3, d3, ds3, p3, q3, rfl, rfl, rfl, h3, r3⟩ := trodAll_cons r2
 obtain ⟨rfl, rfl, rfl⟩ := trodAll_nil r3
 obtain rfl : args = #[v0, v1, v2, v3] := by cases args; simp_all
 obtain ⟨rfl, rfl⟩ := trodVars_none hV
 obtain ⟨a0, rfl, rfl, rfl, y0⟩ := open_string Tryz.underlying9 (hval 0 9 v0 rfl rfl) h0
 have w0 : a0.size ≤ 140737488351232 := by
  have z := sized_string hsz (j := 0) (t := 9) rfl rfl
  rw [Array.length_toList] at z
  exact z
 obtain ⟨a1, len1, cap1, rfl⟩ := okWide_slice Tryz.underlying31 (hval 1 31 v1 rfl rfl)
 have k1 := h1
 have lt1 : ∀ x ∈ p1, x.block < W.heap.size := by obtain ⟨m, hm⟩ := k1; exact DataW.trod_lt m _ _ _ hm
 obtain ⟨z1, w1⟩ : ∃ zs, IsRow .i64 W a1 len1 cap1 zs := by
  obtain ⟨fuel, hf⟩ := h1
  rcases open_ints Tryz.underlying31 Tryz.underlying3 (by kernel_rfl) hf with ⟨hcs, _⟩ | ⟨x, l, c, zs, hcs, _, hl, hm, hz, _, hcell, hwz⟩
  ·simp [Value.cells] at hcs
   obtain ⟨rfl, rfl, rfl⟩ := hcs
   exact ⟨[], .inl ⟨rfl, rfl, rfl, rfl⟩⟩
  ·simp [Value.cells] at hcs
   obtain ⟨rfl, rfl, rfl⟩ := hcs
   exact ⟨zs, .inr ⟨_, rfl, hl, hm, by simpa using hz, hcell, hwz⟩⟩
 have y1 : len1 * 8 ≤ 140737488351232 := Go.PW.PrintWords.sized_ints hsz (j := 1) (t := 31) rfl rfl Tryz.underlying31 Tryz.underlying3 (by kernel_rfl) (by kernel_rfl) h1
 obtain ⟨a2, len2, cap2, rfl⟩ := okWide_slice Tryz.underlying31 (hval 2 31 v2 rfl rfl)
 have k2 := h2
 have lt2 : ∀ x ∈ p2, x.block < W.heap.size := by obtain ⟨m, hm⟩ := k2; exact DataW.trod_lt m _ _ _ hm
 obtain ⟨z2, w2⟩ : ∃ zs, IsRow .i64 W a2 len2 cap2 zs := by
  obtain ⟨fuel, hf⟩ := h2
  rcases open_ints Tryz.underlying31 Tryz.underlying3 (by kernel_rfl) hf with ⟨hcs, _⟩ | ⟨x, l, c, zs, hcs, _, hl, hm, hz, _, hcell, hwz⟩
  ·simp [Value.cells] at hcs
   obtain ⟨rfl, rfl, rfl⟩ := hcs
   exact ⟨[], .inl ⟨rfl, rfl, rfl, rfl⟩⟩
  ·simp [Value.cells] at hcs
   obtain ⟨rfl, rfl, rfl⟩ := hcs
   exact ⟨zs, .inr ⟨_, rfl, hl, hm, by simpa using hz, hcell, hwz⟩⟩
 have y2 : len2 * 8 ≤ 140737488351232 := Go.PW.PrintWords.sized_ints hsz (j := 2) (t := 31) rfl rfl Tryz.underlying31 Tryz.underlying3 (by kernel_rfl) (by kernel_rfl) h2
 obtain ⟨a3, rfl, rfl, rfl, y3⟩ := open_string Tryz.underlying9 (hval 3 9 v3 rfl rfl) h3
 have w3 : a3.size ≤ 140737488351232 := by
  have z := sized_string hsz (j := 3) (t := 9) rfl rfl
  rw [Array.length_toList] at z
  exact z
 clear hA0 hval0 hsz0 hsz
 refine (PA.laws_FnExactIsReversible.walk hP a0 a1 len1 cap1 z1 a2 len2 cap2 z2 a3 W w0 w1 y1 w2 y2 w3).mono fun e W' ⟨he, bel⟩ => ?_
 subst he
 exact ⟨_, rfl, _, _, _, [], _, [], hW', trodAll_mk1 (shut_bool Tryz.underlying4 _), (trodAll_cons_mk (shut_string Tryz.underlying9 y0) (trodAll_cons_mk (Below.trod Zln (by kernel_rfl) (of_decide_eq_true (by kernel_rfl)) k1 bel lt1) (trodAll_cons_mk (Below.trod Zln (by kernel_rfl) (of_decide_eq_true (by kernel_rfl)) k2 bel lt2) (trodAll_cons_mk (shut_string Tryz.underlying9 y3) trodAll_mk0)))), rfl, bel.frame _, fun h => by cases h⟩
theorem over (hP : PA.laws_FnExactIsReversible.Pure) : Rows.FnExactIsReversibleSaid :=
 OpenClaim.holds_of_wide 5 Tryz.f5 rfl rfl rfl rfl rfl rfl rfl ⟨rfl, rfl, rfl, rfl, rfl⟩ rfl rfl rfl rfl rfl (by kernel_rfl) Tryz.func5 (by kernel_rfl)
  (of_decide_eq_true (by kernel_rfl)) (by unfold Func.isWrapper; first | (rw [if_pos (by decide +kernel)]; kernel_rfl) | (rw [if_neg (by decide +kernel)]; exact ⟨rfl, rfl⟩))
  (fun os started H enc _ => lifted hP os started H enc)
theorem carded (hP : PA.laws_FnExactIsReversible.Pure) : Rows.FnExactIsReversibleCardSaid :=
 Claim7.holds_tied_plain_at .later [] [.data, .pinned] true (true, "cf7b0e41f916e4a641c3e0a935cb987e17fcc48cb0d7eda7c3c63c26678e2e2e") false
  (over hP) (fun _ h => by cases h) (by kernel_rfl) (fun _ h => by cases h) fnExactIsReversible_row_tie rfl ⟨rfl, rfl⟩ (by kernel_rfl) rfl
  (fun f fn hf hfn => by
   obtain rfl : f = 5 := Option.some.inj ((show Tryz.prog.funcNamed "loop.example/g01199/laws.FnExactIsReversible" = some 5 by kernel_rfl).symm.trans hf) |>.symm
   obtain rfl : fn = Tryz.f5 := (Option.some.inj (Tryz.func5.symm.trans hfn)).symm
   exact ⟨by kernel_rfl, fun j t ht => by
    rw [Tryz.params5] at ht
    have hm : t ∈ [9, 31, 31, 9] := by
     have := Array.mem_of_getElem? ht
     simpa using this
    have hall : ([9, 31, 31, 9].all fun u => !Tryz.prog.wantsStandIn u) = true := by kernel_rfl
    exact (show Tryz.prog.wantsStandIn t = false by simpa using List.all_eq_true.1 hall t hm)⟩)
  (by kernel_rfl)
end Go.Proofs.YtjohcjkidoalkaaGreatDoor.fnExactIsReversible
namespace Go.Proofs.YtjohcjkidoalkaaGreatDoor.Plain
open Go.RowKit Go.Proofs.YtjohcjkidoalkaaGreatDoor.PA Go.PW.PrintWords Go.PW.PrintLast
def Ev {α : Type} (f : Nat → Option α) (r : α) : Prop := ∃ k0, ∀ k, k0 ≤ k → f k = some r
theorem Ev.const {α : Type} {o : Option α} {r : α} (h : o = some r) : Ev (fun _ => o) r := ⟨0, fun _ _ => h⟩
theorem Ev.shift {α : Type} {f g : Nat → Option α} {r : α} (h : Ev g r) (hs : ∀ k, f (k + 1) = g k) : Ev f r := by
 obtain ⟨k0, h⟩ := h
 refine ⟨k0 + 1, fun k hk => ?_⟩
 obtain ⟨j, rfl⟩ : ∃ j, k = j + 1 := ⟨k - 1, by omega⟩
 rw [hs, h j (by omega)]
theorem Ev.bind {α β : Type} {f : Nat → Option α} {g : Nat → α → Option β} {a : α} {r : β} (h : Ev f a) (hg : Ev (fun k => g k a) r) : Ev (fun k => (f k).bind (g k)) r := by
 obtain ⟨k0, h⟩ := h
 obtain ⟨k1, hg⟩ := hg
 refine ⟨max k0 k1, fun k hk => ?_⟩
 show (f k).bind (g k) = some r
 rw [h k (by omega)]
 exact hg k (by omega)
theorem Ev.congr {α : Type} {f g : Nat → Option α} {r : α} (h : Ev g r) (hs : ∀ k, f k = g k) : Ev f r := by
 obtain ⟨k0, h⟩ := h
 exact ⟨k0, fun k hk => by rw [hs, h k hk]⟩
theorem Zc2 (j : Nat) (h : j < 4294967296) : wrap64 ((j : Int) + 1) = ((j + 1 : Nat) : Int) := by
 unfold wrap64; omega
theorem Zdd {x : Int} (h1 : -4294967296 < x) (h2 : x < 4294967296) : wrap64 x = x := by
 unfold wrap64; omega
theorem rd_n (l : List Int) (j : Nat) (h : j < l.length) : rd l (j : Int) = l[j] := by simp [rd, List.getD_eq_getElem?_getD, List.getElem?_eq_getElem h]
theorem Zcq {α : Type} (l : List α) (j : Nat) (h : j < l.length) : l.drop j = l[j] :: l.drop (j + 1) := List.drop_eq_getElem_cons h
theorem Zi6 (c : Int) : Zcb.f c = some (ballB c) := by
 unfold Zcb.f ballB
 by_cases h : c = 111
 ·simp [h]
 ·by_cases h2 : 97 ≤ c <;> simp [h, h2]
theorem rdL_n (S : List (List Int)) (j : Nat) (h : j < S.length) : rd_L3 S (j : Int) = S[j] := by simp [rd_L3, List.getD_eq_getElem?_getD, List.getElem?_eq_getElem h]
def InC (cells : List Int) (S : List (List Int)) : Prop := ∀ own ∈ S, ∀ k ∈ own, 0 ≤ k ∧ k < cells.length
def Zg2 (a b : Int) : Int := if a < b then a else b
theorem Zkr (a b : Int) : Zdn.f a b = some (Zg2 a b) := by
 unfold Zdn.f Zg2
 split <;> rfl
theorem Zhg (l : List Int) (h0 : 0 < l.length) (hl : l.length < 4294967296) : Ev (fun k => Zbc.f k l) (l.foldl Zg2 (rd l 0)) := by
 have main : ∀ (m j : Nat) (a : Int), j + m = l.length → Ev (fun k => Zbc.l0 k a l (l.length : Int) (j : Int)) ((l.drop j).foldl Zg2 a) := by
  intro m
  induction m with
  | zero =>
   intro j a hj
   refine Ev.shift (g := fun _ => some a) (Ev.const (by rw [List.drop_eq_nil_of_le (by omega)]; rfl)) (fun k => ?_)
   simp only [Zbc.l0]
   rw [if_neg (by omega)]
  | succ m ih =>
   intro j a hj
   have hlt : j < l.length := by omega
   refine Ev.shift (g := fun k => Zbc.l0 k (Zg2 a l[j]) l (l.length : Int) ((j + 1 : Nat) : Int)) ?_ (fun k => ?_)
   ·rw [Zcq _ j hlt, List.foldl_cons]
    exact ih (j + 1) _ (by omega)
   ·simp only [Zbc.l0]
    rw [if_pos (by omega), if_pos (by omega), if_pos (by omega), rd_n _ _ hlt, Zkr, Zc2 j (by omega)]
    rfl
 have := main l.length 0 (rd l 0) (by omega)
 refine Ev.congr (by simpa using this) (fun k => ?_)
 unfold Zbc.f
 rw [if_pos (by omega)]
theorem Zk2 (w h x y : Int) (cells : List Int) (hw : 1 ≤ w) (hw7 : w ≤ 7) (hh : 1 ≤ h) (hh7 : h ≤ 7) : Za1.f w h cells x y = some (decide (0 ≤ x ∧ x < w ∧ 0 ≤ y ∧ y < h)) := by
 simp only [Za1.f, Zca.f]
 rw [Zdd (x := w - 1) (by omega) (by omega), Zdd (x := h - 1) (by omega) (by omega)]
 by_cases h1 : 0 ≤ x <;> by_cases h2 : x < w <;> by_cases h3 : 0 ≤ y <;> by_cases h4 : y < h <;>
  simp [h1, h2, h3, h4, show (x ≤ w - 1) = (x < w) from propext (by omega), show (y ≤ h - 1) = (y < h) from propext (by omega)]
def Zdg (w h : Int) (cells : List Int) (x y : Int) : Int :=
 if 0 ≤ x ∧ x < w ∧ 0 ≤ y ∧ y < h then (if rd cells (y * w + x) = 35 then -1 else y * w + x) else -1
theorem Zjh (w h x y : Int) (hw : 1 ≤ w) (hx : 0 ≤ x) (hxw : x < w) (hy : 0 ≤ y) (hyh : y < h) : 0 ≤ y * w + x ∧ y * w + x < w * h := by
 have h1 : 0 ≤ y * w := Int.mul_nonneg hy (by omega)
 have h2 : (y + 1) * w ≤ h * w := Int.mul_le_mul_of_nonneg_right (by omega) (by omega)
 rw [Int.add_mul, Int.one_mul, Int.mul_comm h w] at h2
 omega
theorem step_eq (w h x y : Int) (cells : List Int) (hw : 1 ≤ w) (hw7 : w ≤ 7) (hh : 1 ≤ h) (hh7 : h ≤ 7) (hl : (cells.length : Int) = w * h) (hb : w * h ≤ 49)
  (hx : -1 ≤ x ∧ x ≤ 7) (hy : -1 ≤ y ∧ y ≤ 49) :
  ((Za1.f w h cells (wrap64 x) (wrap64 y)).bind fun t => if t = true then (if 0 ≤ wrap64 (wrap64 (wrap64 y * w) + wrap64 x) then (if wrap64 (wrap64 (wrap64 y * w) + wrap64 x) < (cells.length : Int) then (if rd cells (wrap64 (wrap64 (wrap64 y * w) + wrap64 x)) = 35 then some (-1) else some (wrap64 (wrap64 (wrap64 y * w) + wrap64 x))) else none) else none) else some (-1)) = some (Zdg w h cells x y) := by
 rw [Zdd (x := x) (by omega) (by omega), Zdd (x := y) (by omega) (by omega), Zk2 w h x y cells hw hw7 hh hh7, Option.bind_some, Zdg]
 by_cases hc : 0 ≤ x ∧ x < w ∧ 0 ≤ y ∧ y < h
 ·have := Zjh w h x y hw hc.1 hc.2.1 hc.2.2.1 hc.2.2.2
  have h1 : 0 ≤ y * w := Int.mul_nonneg hc.2.2.1 (by omega)
  rw [Zdd (x := y * w) (by omega) (by omega), Zdd (x := y * w + x) (by omega) (by omega)]
  rw [decide_eq_true hc, if_pos rfl, if_pos this.1, if_pos (by omega), if_pos hc]
  split <;> rfl
 ·rw [decide_eq_false hc, if_neg (by simp), if_neg hc]
theorem Zgi (w h x y : Int) (cells : List Int) (hw : 1 ≤ w) (hw7 : w ≤ 7) (hh : 1 ≤ h) (hh7 : h ≤ 7) (hl : (cells.length : Int) = w * h) (hb : w * h ≤ 49)
  (hx : -1 ≤ x ∧ x ≤ 7) (hy : -1 ≤ y ∧ y ≤ 49) :
  ((Za1.f w h cells x y).bind fun t => if t = true then (if 0 ≤ wrap64 (wrap64 (y * w) + x) then (if wrap64 (wrap64 (y * w) + x) < (cells.length : Int) then (if rd cells (wrap64 (wrap64 (y * w) + x)) = 35 then some (-1) else some (wrap64 (wrap64 (y * w) + x))) else none) else none) else some (-1)) = some (Zdg w h cells x y) := by
 have := step_eq w h x y cells hw hw7 hh hh7 hl hb hx hy
 rw [Zdd (x := x) (by omega) (by omega), Zdd (x := y) (by omega) (by omega)] at this
 exact this
def Zch (w h : Int) (cells : List Int) (i d : Int) : Int :=
 if d = 0 then Zdg w h cells (i % w) (i / w - 1) else if d = 1 then Zdg w h cells (i % w + 1) (i / w)
 else if d = 2 then Zdg w h cells (i % w) (i / w + 1) else Zdg w h cells (i % w - 1) (i / w)
theorem Zf0 (w h i d : Int) (cells : List Int) (hw : 1 ≤ w) (hw7 : w ≤ 7) (hh : 1 ≤ h) (hh7 : h ≤ 7) (hl : (cells.length : Int) = w * h) (hb : w * h ≤ 49) (hi : 0 ≤ i) (hi2 : i < w * h) :
  Zcd.f w h cells i d = some (Zch w h cells i d) := by
 have m0 : 0 ≤ i % w := Int.emod_nonneg _ (by omega)
 have m1 : i % w < w := Int.emod_lt_of_pos _ (by omega)
 have d0 : 0 ≤ i / w := Int.ediv_nonneg hi (by omega)
 have d1 : i / w ≤ i := Int.ediv_le_self _ hi
 simp only [Zcd.f, Int.tmod_eq_emod_of_nonneg hi, Int.tdiv_eq_ediv_of_nonneg hi]
 rw [if_neg (by omega)]
 rw [Zdd (x := i / w) (by omega) (by omega), Zdd (x := i / w - 1) (by omega) (by omega), Zdd (x := i / w + 1) (by omega) (by omega), Zdd (x := i % w + 1) (by omega) (by omega), Zdd (x := i % w - 1) (by omega) (by omega)]
 rw [Zgi w h (i % w) (i / w - 1) cells hw hw7 hh hh7 hl hb (by omega) (by omega), Zgi w h (i % w + 1) (i / w) cells hw hw7 hh hh7 hl hb (by omega) (by omega),
  Zgi w h (i % w) (i / w + 1) cells hw hw7 hh hh7 hl hb (by omega) (by omega), Zgi w h (i % w - 1) (i / w) cells hw hw7 hh hh7 hl hb (by omega) (by omega), Zch]
 by_cases e0 : d = 0
 ·rw [if_pos e0, if_pos e0]
 ·by_cases e1 : d = 1
  ·rw [if_neg e0, if_neg e0, if_pos e1, if_pos e1]
  ·by_cases e2 : d = 2
   ·rw [if_neg e0, if_neg e0, if_neg e1, if_neg e1, if_pos e2, if_pos e2]
   ·rw [if_neg e0, if_neg e0, if_neg e1, if_neg e1, if_neg e2, if_neg e2]
def Zdq (w h : Int) (cells : List Int) (d : Int) : Nat → Int → List Int
 | 0, _ => []
 | n + 1, c => if c ≥ 0 then c :: Zdq w h cells d n (Zch w h cells c d) else []
def Zil (w h : Int) (cells : List Int) (d : Int) : Nat → Int → Prop
 | 0, c => c < 0
 | n + 1, c => c < 0 ∨ Zil w h cells d n (Zch w h cells c d)
theorem Zfw (w h x y : Int) (cells : List Int) (hw : 1 ≤ w) (hb : 0 ≤ w * h) : Zdg w h cells x y < w * h ∨ Zdg w h cells x y = -1 := by
 unfold Zdg
 split
 ·rename_i hc
  have := Zjh w h x y hw hc.1 hc.2.1 hc.2.2.1 hc.2.2.2
  split <;> omega
 ·omega
theorem Ze6 (w h c d : Int) (cells : List Int) (hw : 1 ≤ w) (hb : 0 < w * h) : Zch w h cells c d < w * h := by
 unfold Zch
 have := Zfw w h (c % w) (c / w - 1) cells hw (by omega)
 have := Zfw w h (c % w + 1) (c / w) cells hw (by omega)
 have := Zfw w h (c % w) (c / w + 1) cells hw (by omega)
 have := Zfw w h (c % w - 1) (c / w) cells hw (by omega)
 split
 ·omega
 ·split
  ·omega
  ·split <;> omega
theorem chain_ev (w h d i : Int) (cells : List Int) (S : List (List Int)) (hw : 1 ≤ w) (hw7 : w ≤ 7) (hh : 1 ≤ h) (hh7 : h ≤ 7) (hl : (cells.length : Int) = w * h) (hb : w * h ≤ 49) (hp : 0 < w * h)
  (hd : 0 ≤ d ∧ d ≤ 3) (r : List (List Int)) : ∀ (n : Nat) (c : Int) (acc : List Int), c < w * h → Zil w h cells ((d + 2) % 4) n c → acc.length + n < 1000000 →
   Ev (fun k => Zam.l2 k d S (acc ++ Zdq w h cells ((d + 2) % 4) n c) 0 cells (cells.length : Int) i w h cells) r →
   Ev (fun k => Zam.l1 k d S acc c cells (cells.length : Int) i w h cells) r := by
 have ed : Int.tmod (wrap64 (d + 2)) 4 = (d + 2) % 4 := by
  rw [Zdd (x := d + 2) (by omega) (by omega), Int.tmod_eq_emod_of_nonneg (by omega)]
 intro n
 induction n with
 | zero =>
  intro c acc hc hs ha hr
  rw [Zdq, List.append_nil] at hr
  refine Ev.shift hr (fun k => ?_)
  simp only [Zam.l1]
  have : c < 0 := hs
  rw [if_neg (by omega)]
 | succ n ih =>
  intro c acc hc hs ha hr
  by_cases h0 : c ≥ 0
  ·rw [Zdq, if_pos h0] at hr
   refine Ev.shift (g := fun k => Zam.l1 k d S (acc ++ [c]) (Zch w h cells c ((d + 2) % 4)) cells (cells.length : Int) i w h cells) ?_ (fun k => ?_)
   ·refine ih _ _ (Ze6 w h c _ cells hw hp) ?_ (by rw [List.length_append, List.length_singleton]; omega) (by simpa using hr)
    rcases hs with hs | hs
    ·omega
    ·exact hs
   ·simp only [Zam.l1]
    rw [if_pos h0, if_pos (by omega), ed, Zf0 w h c _ cells hw hw7 hh hh7 hl hb h0 hc]
    rfl
  ·rw [Zdq, if_neg h0, List.append_nil] at hr
   refine Ev.shift hr (fun k => ?_)
   simp only [Zam.l1]
   rw [if_neg h0]
def Zkb (l : List Int) : Int := l.foldl Zg2 (rd l 0)
def insD (r : List Int) : List (List Int) → List (List Int)
 | [] => [r]
 | s :: S => if Zkb s < Zkb r then s :: insD r S else r :: s :: S
theorem ins_ev (w h d : Int) (i : Nat) (cells : List Int) (S : List (List Int)) (r : List Int) (hi : i < 1000000) (hS : S.length < 1000000) (hr0 : 0 < r.length ∧ r.length < 4294967296) (hn : ∀ s ∈ S, 0 < s.length ∧ s.length < 4294967296)
  (R : List (List Int)) : ∀ (m j : Nat), j + m = S.length →
   Ev (fun k => Zam.l0 k d (S.take j ++ insD r (S.drop j)) cells (cells.length : Int) ((i + 1 : Nat) : Int) w h cells) R →
   Ev (fun k => Zam.l2 k d S r (j : Int) cells (cells.length : Int) (i : Int) w h cells) R := by
 intro m
 induction m with
 | zero =>
  intro j hj hR
  rw [List.drop_eq_nil_of_le (by omega), insD, List.take_of_length_le (by omega)] at hR
  refine Ev.shift hR (fun k => ?_)
  simp only [Zam.l2, Option.bind_some, List.nil_append, Int.toNat_natCast]
  rw [if_neg (by omega), if_pos (by omega), if_pos (by omega), List.take_of_length_le (by omega), List.drop_eq_nil_of_le (by omega)]
  rw [if_pos (by simp only [List.length_nil]; omega), if_pos (by omega), if_pos (by simp only [List.length_append, List.length_singleton, List.length_nil]; omega), List.append_nil, Zc2 i (by omega)]
 | succ m ih =>
  intro j hj hR
  have hlt : j < S.length := by omega
  have hs := hn S[j] (List.getElem_mem _)
  rw [Zcq S j hlt, insD] at hR
  have e1 := Zhg S[j] hs.1 hs.2
  have e2 := Zhg r hr0.1 hr0.2
  have body : Ev (fun k => (Zbc.f k S[j]).bind fun a => (Zbc.f k r).bind fun b => if a < b then Zam.l2 k d S r ((j + 1 : Nat) : Int) cells (cells.length : Int) (i : Int) w h cells else Zam.l0 k d (S.take j ++ [r] ++ S.drop j) cells (cells.length : Int) ((i + 1 : Nat) : Int) w h cells) R := by
   refine Ev.bind (g := fun k a => (Zbc.f k r).bind fun b => if a < b then Zam.l2 k d S r ((j + 1 : Nat) : Int) cells (cells.length : Int) (i : Int) w h cells else Zam.l0 k d (S.take j ++ [r] ++ S.drop j) cells (cells.length : Int) ((i + 1 : Nat) : Int) w h cells) e1 ?_
   refine Ev.bind (g := fun k b => if S[j].foldl Zg2 (rd S[j] 0) < b then Zam.l2 k d S r ((j + 1 : Nat) : Int) cells (cells.length : Int) (i : Int) w h cells else Zam.l0 k d (S.take j ++ [r] ++ S.drop j) cells (cells.length : Int) ((i + 1 : Nat) : Int) w h cells) e2 ?_
   by_cases hf : Zkb S[j] < Zkb r
   ·rw [if_pos hf] at hR
    refine Ev.congr (ih (j + 1) (by omega) ?_) (fun k => if_pos hf)
    rw [← List.take_append_getElem hlt, List.append_assoc]
    exact hR
   ·rw [if_neg hf] at hR
    refine Ev.congr ?_ (fun k => if_neg hf)
    rw [Zcq S j hlt, List.append_assoc]
    exact hR
  refine Ev.shift body (fun k => ?_)
  simp only [Zam.l2, Option.bind_some, List.nil_append, Int.toNat_natCast]
  rw [if_pos (by omega), if_pos (by omega), rdL_n S j hlt, Zc2 j (by omega), Zc2 i (by omega)]
  have t : (S.take j).length = j := by rw [List.length_take]; omega
  have u : (S.drop j).length = S.length - j := List.length_drop
  simp only [List.length_append, List.length_singleton, List.length_nil, t, u]
  rw [if_pos (show (j : Int) ≤ (S.length : Int) by omega), if_pos (show 0 + j < 5864062014805 by omega), if_pos (show j < 5864062014805 by omega), if_pos (show j + 1 + (S.length - j) < 5864062014805 by omega)]
theorem Zev (w h : Int) (cells : List Int) (d : Int) : ∀ (n : Nat) (c : Int), (Zdq w h cells d n c).length ≤ n
 | 0, _ => by simp [Zdq]
 | n + 1, c => by
  rw [Zdq]
  split
  ·have := Zev w h cells d n (Zch w h cells c d)
   simp only [List.length_cons]; omega
  ·simp
theorem Zh7 (r x : List Int) : ∀ S, x ∈ insD r S ↔ x = r ∨ x ∈ S
 | [] => by simp [insD]
 | s :: S => by
  have := Zh7 r x S
  rw [insD]
  split
  ·simp only [List.mem_cons, this]
   constructor
   ·rintro (h | h | h) <;> simp [h]
   ·rintro (h | h | h) <;> simp [h]
  ·simp only [List.mem_cons]
theorem Zff (r : List Int) : ∀ S, (insD r S).length = S.length + 1
 | [] => by simp [insD]
 | s :: S => by
  have := Zff r S
  rw [insD]
  split
  ·simp only [List.length_cons]; omega
  ·simp only [List.length_cons]
def stepS (w h : Int) (cells : List Int) (d : Int) (S : List (List Int)) (i : Nat) : List (List Int) :=
 if rd cells i = 35 then S else if Zch w h cells i d ≥ 0 then S else insD ((i : Int) :: Zdq w h cells ((d + 2) % 4) 8 (Zch w h cells i ((d + 2) % 4))) S
def Zci (w h : Int) (cells : List Int) (d : Int) : List (List Int) := (List.range cells.length).foldl (stepS w h cells d) []
theorem Zgo (w h d : Int) (cells : List Int) (hw : 1 ≤ w) (hw7 : w ≤ 7) (hh : 1 ≤ h) (hh7 : h ≤ 7) (hl : (cells.length : Int) = w * h) (hb : w * h ≤ 49) (hp : 0 < w * h) (hd : 0 ≤ d ∧ d ≤ 3)
  (hst : ∀ i : Nat, i < cells.length → Zil w h cells ((d + 2) % 4) 8 (Zch w h cells i ((d + 2) % 4))) :
  Ev (fun k => Zam.f k w h cells d) (Zci w h cells d) := by
 have ed : Int.tmod (wrap64 (d + 2)) 4 = (d + 2) % 4 := by
  rw [Zdd (x := d + 2) (by omega) (by omega), Int.tmod_eq_emod_of_nonneg (by omega)]
 have main : ∀ (m i : Nat) (S : List (List Int)), i + m = cells.length → S.length ≤ i → (∀ s ∈ S, 0 < s.length ∧ s.length < 4294967296) →
   Ev (fun k => Zam.l0 k d S cells (cells.length : Int) (i : Int) w h cells) ((List.range' i m).foldl (stepS w h cells d) S) := by
  intro m
  induction m with
  | zero =>
   intro i S hi hS hn
   refine Ev.shift (g := fun _ => some S) (Ev.const rfl) (fun k => ?_)
   simp only [Zam.l0]
   rw [if_neg (by omega)]
  | succ m ih =>
   intro i S hi hS hn
   rw [List.range'_succ, List.foldl_cons]
   have hA := Zf0 w h i d cells hw hw7 hh hh7 hl hb (by omega) (by omega)
   have hB := Zf0 w h i ((d + 2) % 4) cells hw hw7 hh hh7 hl hb (by omega) (by omega)
   have skip : stepS w h cells d S i = S → Ev (fun k => Zam.j1 k d S (i : Int) cells (cells.length : Int) (i : Int) true w h cells) ((List.range' (i + 1) m).foldl (stepS w h cells d) (stepS w h cells d S i)) := by
    intro e
    rw [e]
    refine Ev.shift (ih (i + 1) S (by omega) (by omega) hn) (fun k => ?_)
    simp only [Zam.j1]
    rw [if_pos trivial, Zc2 i (by omega)]
   by_cases h1 : rd cells i = 35
   ·refine Ev.shift (skip (by rw [stepS, if_pos h1])) (fun k => ?_)
    simp only [Zam.l0]
    rw [if_pos (by omega), if_pos (by omega), if_pos (by omega), if_pos h1]
   ·by_cases h2 : Zch w h cells i d ≥ 0
    ·refine Ev.shift (skip (by rw [stepS, if_neg h1, if_pos h2])) (fun k => ?_)
     simp only [Zam.l0]
     rw [if_pos (by omega), if_pos (by omega), if_pos (by omega), if_neg h1, hA, Option.bind_some, decide_eq_true h2]
    ·refine Ev.shift (g := fun k => Zam.j1 k d S (i : Int) cells (cells.length : Int) (i : Int) false w h cells) ?_ (fun k => ?_)
     ·refine Ev.shift (g := fun k => Zam.l1 k d S [(i : Int)] (Zch w h cells i ((d + 2) % 4)) cells (cells.length : Int) (i : Int) w h cells) ?_ (fun k => ?_)
      ·have hc := Zev w h cells ((d + 2) % 4) 8 (Zch w h cells i ((d + 2) % 4))
       refine chain_ev w h d i cells S hw hw7 hh hh7 hl hb hp hd _ 8 _ _ (Ze6 w h i _ cells hw hp) (hst i (by omega)) (by simp) ?_
       refine ins_ev w h d i cells S _ (by omega) (by omega) ⟨by simp, by simp only [List.length_append, List.length_singleton]; omega⟩ hn _ S.length 0 (by omega) ?_
       have e : stepS w h cells d S i = insD ((i : Int) :: Zdq w h cells ((d + 2) % 4) 8 (Zch w h cells i ((d + 2) % 4))) S := by
        rw [stepS, if_neg h1, if_neg h2]
       rw [e]
       have := ih (i + 1) (insD ((i : Int) :: Zdq w h cells ((d + 2) % 4) 8 (Zch w h cells i ((d + 2) % 4))) S) (by omega) (by rw [Zff]; omega) (by
        intro s hs
        rw [Zh7] at hs
        rcases hs with hs | hs
        ·rw [hs]; simp only [List.length_cons]; omega
        ·exact hn s hs)
       simpa using this
      ·simp only [Zam.j1]
       rw [if_neg (by simp), ed, hB, Option.bind_some]
     ·simp only [Zam.l0]
      rw [if_pos (by omega), if_pos (by omega), if_pos (by omega), if_neg h1, hA, Option.bind_some, decide_eq_false h2]
 have := main cells.length 0 [] (by omega) (by simp) (by simp)
 refine Ev.congr (g := fun k => Zam.l0 k d [] cells (cells.length : Int) 0 w h cells) ?_ (fun k => rfl)
 rw [Zci, List.range_eq_range']
 simpa using this
theorem Zef (w h x y : Int) (cells : List Int) (hw : 1 ≤ w) : Zdg w h cells x y = -1 ∨ (0 ≤ x ∧ x < w ∧ 0 ≤ y ∧ y < h ∧ Zdg w h cells x y / w = y ∧ Zdg w h cells x y % w = x ∧ 0 ≤ Zdg w h cells x y) := by
 unfold Zdg
 by_cases hc : 0 ≤ x ∧ x < w ∧ 0 ≤ y ∧ y < h
 ·have hp := Zjh w h x y hw hc.1 hc.2.1 hc.2.2.1 hc.2.2.2
  rw [if_pos hc]
  by_cases h35 : rd cells (y * w + x) = 35
  ·rw [if_pos h35]; exact Or.inl rfl
  ·rw [if_neg h35]
   refine Or.inr ⟨hc.1, hc.2.1, hc.2.2.1, hc.2.2.2, ?_, ?_, hp.1⟩
   ·rw [Int.add_comm, Int.add_mul_ediv_right _ _ (by omega), Int.ediv_eq_zero_of_lt hc.1 hc.2.1, Int.zero_add]
   ·rw [Int.add_comm, Int.add_mul_emod_self_right, Int.emod_eq_of_lt hc.1 hc.2.1]
 ·rw [if_neg hc]; exact Or.inl rfl
def measD (w h c d : Int) : Int := if d = 0 then c / w else if d = 1 then w - 1 - c % w else if d = 2 then h - 1 - c / w else c % w
theorem Zik (w h d : Int) (cells : List Int) (hw : 1 ≤ w) : ∀ (n : Nat) (c : Int), (c < 0 ∨ (0 ≤ measD w h c d ∧ measD w h c d < n)) → Zil w h cells d n c
 | 0, c => by
  intro hc
  show c < 0
  omega
 | n + 1, c => by
  intro hc
  show c < 0 ∨ Zil w h cells d n (Zch w h cells c d)
  rcases hc with hc | hc
  ·exact Or.inl hc
  ·refine Or.inr (Zik w h d cells hw n _ ?_)
   unfold Zch measD at *
   by_cases e0 : d = 0
   ·simp only [if_pos e0] at hc ⊢
    rcases Zef w h (c % w) (c / w - 1) cells hw with q | q <;> omega
   ·by_cases e1 : d = 1
    ·simp only [if_neg e0, if_pos e1] at hc ⊢
     rcases Zef w h (c % w + 1) (c / w) cells hw with q | q <;> omega
    ·by_cases e2 : d = 2
     ·simp only [if_neg e0, if_neg e1, if_pos e2] at hc ⊢
      rcases Zef w h (c % w) (c / w + 1) cells hw with q | q <;> omega
     ·simp only [if_neg e0, if_neg e1, if_neg e2] at hc ⊢
      rcases Zef w h (c % w - 1) (c / w) cells hw with q | q <;> omega
theorem measD_le (w h c d : Int) (hw : 1 ≤ w) (hw7 : w ≤ 7) (hh : 1 ≤ h) (hh7 : h ≤ 7) (hc : 0 ≤ c) (hc2 : c < w * h) : 0 ≤ measD w h c d ∧ measD w h c d < 8 := by
 have m0 : 0 ≤ c % w := Int.emod_nonneg _ (by omega)
 have m1 : c % w < w := Int.emod_lt_of_pos _ (by omega)
 have d0 : 0 ≤ c / w := Int.ediv_nonneg hc (by omega)
 have d1 : c / w < h := Int.ediv_lt_of_lt_mul (by omega) (by rw [Int.mul_comm]; exact hc2)
 unfold measD
 split
 ·omega
 ·split
  ·omega
  ·split <;> omega
theorem Zhc (w h d : Int) (cells : List Int) (hw : 1 ≤ w) (hw7 : w ≤ 7) (hh : 1 ≤ h) (hh7 : h ≤ 7) (hl : (cells.length : Int) = w * h) (hb : w * h ≤ 49) (hp : 0 < w * h) (hd : 0 ≤ d ∧ d ≤ 3) :
  Ev (fun k => Zam.f k w h cells d) (Zci w h cells d) := by
 refine Zgo w h d cells hw hw7 hh hh7 hl hb hp hd (fun i hi => Zik w h _ cells hw 8 _ ?_)
 by_cases h0 : Zch w h cells i ((d + 2) % 4) < 0
 ·exact Or.inl h0
 ·exact Or.inr (measD_le w h _ _ hw hw7 hh hh7 (by omega) (Ze6 w h i _ cells hw hp))
def runD (w h : Int) (cells : List Int) (d : Int) (i : Nat) : List Int := (i : Int) :: Zdq w h cells ((d + 2) % 4) 8 (Zch w h cells i ((d + 2) % 4))
def headD (w h : Int) (cells : List Int) (d : Int) (i : Nat) : Prop := rd cells i ≠ 35 ∧ Zch w h cells i d < 0
theorem Zj7 (w h : Int) (cells : List Int) (d : Int) (x : List Int) : ∀ (L : List Nat) (S : List (List Int)), x ∈ L.foldl (stepS w h cells d) S ↔ x ∈ S ∨ ∃ i ∈ L, headD w h cells d i ∧ x = runD w h cells d i
 | [], S => by simp
 | i :: L, S => by
  rw [List.foldl_cons, Zj7 w h cells d x L]
  have e : x ∈ stepS w h cells d S i ↔ x ∈ S ∨ (headD w h cells d i ∧ x = runD w h cells d i) := by
   unfold stepS headD
   by_cases h1 : rd cells i = 35
   ·rw [if_pos h1]; simp [h1]
   ·rw [if_neg h1]
    by_cases h2 : Zch w h cells i d ≥ 0
    ·rw [if_pos h2]
     constructor
     ·exact Or.inl
     ·rintro (q | q)
      ·exact q
      ·omega
    ·rw [if_neg h2, Zh7]
     constructor
     ·rintro (q | q)
      ·exact Or.inr ⟨⟨h1, by omega⟩, q⟩
      ·exact Or.inl q
     ·rintro (q | q)
      ·exact Or.inr q
      ·exact Or.inl q.2
  rw [e]
  simp only [List.mem_cons, exists_eq_or_imp]
  exact or_assoc
theorem Zeh (w h : Int) (cells : List Int) (d : Int) (x : List Int) : x ∈ Zci w h cells d ↔ ∃ i < cells.length, headD w h cells d i ∧ x = runD w h cells d i := by
 rw [Zci, Zj7]
 simp
theorem Zi2 (w h : Int) (cells : List Int) (d : Int) (hw : 1 ≤ w) (hp : 0 < w * h) (hl : (cells.length : Int) = w * h) : ∀ (n : Nat) (c : Int), c < w * h → ∀ k ∈ Zdq w h cells d n c, 0 ≤ k ∧ k < cells.length
 | 0, _, _, k, hk => by simp [Zdq] at hk
 | n + 1, c, hc, k, hk => by
  rw [Zdq] at hk
  split at hk
  ·rcases List.mem_cons.1 hk with q | q
   ·subst q; omega
   ·exact Zi2 w h cells d hw hp hl n _ (Ze6 w h c d cells hw hp) k q
  ·simp at hk
theorem Zhw (w h : Int) (cells : List Int) (d : Int) (hw : 1 ≤ w) (hp : 0 < w * h) (hl : (cells.length : Int) = w * h) : InC cells (Zci w h cells d) := by
 intro s hs k hk
 rw [Zeh] at hs
 obtain ⟨i, hi, _, rfl⟩ := hs
 rcases List.mem_cons.1 hk with q | q
 ·subst q; omega
 ·exact Zi2 w h cells _ hw hp hl 8 _ (Ze6 w h i _ cells hw hp) k q
theorem Zgh (w h : Int) (cells : List Int) (d : Int) : ∀ s ∈ Zci w h cells d, s.length ≤ 9 := by
 intro s hs
 rw [Zeh] at hs
 obtain ⟨i, hi, _, rfl⟩ := hs
 have := Zev w h cells ((d + 2) % 4) 8 (Zch w h cells i ((d + 2) % 4))
 simp only [runD, List.length_cons]; omega
def udB (d : Int) : Bool := d == 117 || d == 100
def rvB (d : Int) : Bool := d == 114 || d == 100
def isD (d : Int) : Prop := d = 117 ∨ d = 114 ∨ d = 100 ∨ d = 108
def numL (w : Nat) (d : Int) (i k : Nat) : Int := if udB d = true then ((k * w + i : Nat) : Int) else ((i * w + k : Nat) : Int)
def longL (w h : Nat) (d : Int) : Nat := if udB d = true then h else w
def manyL (w h : Nat) (d : Int) : Nat := if udB d = true then w else h
def finL (d : Int) (l : List Int) : List Int := if rvB d = true then l.reverse else l
def lineL (w h : Nat) (d : Int) (i : Nat) : List Int := finL d ((List.range (longL w h d)).map (numL w d i))
def Zc5 (w h : Nat) (d : Int) : List (List Int) := (List.range (manyL w h d)).map (lineL w h d)
theorem lines_ev (w h : Nat) (hw : w ≤ 1000) (hh : h ≤ 1000) (l : List Int) (d : Int) (hd : isD d) : Ev (fun k => Zan.f k w h l d) (Zc5 w h d) := by
 have bd : ∀ a b : Nat, a ≤ 1000 → b ≤ 1000 → a * b ≤ 1000000 := fun a b ha hb => Nat.mul_le_mul ha hb
 have hud : ∀ (x : Nat), longL w h d = x → x ≤ 1000 := by
  intro x hx; unfold longL at hx; split at hx <;> omega
 have hmd : manyL w h d ≤ 1000 := by
  unfold manyL; split <;> omega
 have num : ∀ i k : Nat, i ≤ 1000 → k ≤ 1000 → ∀ (S : List (List Int)) (acc : List Int) (r : List (List Int)) (many long : Int), acc.length ≤ 1000 →
   Ev (fun n => Zan.l1 n d S long i (acc ++ [numL w d i k]) many i long ((k + 1 : Nat) : Int) w h l) r →
   Ev (fun n => Zan.j4 n d S long i acc k many i long k (udB d) w h l) r := by
  intro i k hi hk S acc r many long ha hr
  have b1 := bd k w hk hw
  have b2 := bd i w hi hw
  refine Ev.shift hr (fun n => ?_)
  simp only [Zan.j4, Zbt.f, Option.bind_some]
  rw [Zc2 k (by omega), if_pos (show acc.length < 17592186044416 by omega), if_pos (show acc.length < 17592186044416 by omega)]
  unfold numL
  have e1 : wrap64 (wrap64 ((k : Int) * (w : Int)) + (i : Int)) = ((k * w + i : Nat) : Int) := by
   have c : ((k : Int) * (w : Int)) = ((k * w : Nat) : Int) := by simp
   rw [c, Zdd (x := ((k * w : Nat) : Int)) (by omega) (by omega), Zdd (by omega) (by omega)]; omega
  have e2 : wrap64 (wrap64 ((i : Int) * (w : Int)) + (k : Int)) = ((i * w + k : Nat) : Int) := by
   have c : ((i : Int) * (w : Int)) = ((i * w : Nat) : Int) := by simp
   rw [c, Zdd (x := ((i * w : Nat) : Int)) (by omega) (by omega), Zdd (by omega) (by omega)]; omega
  rw [e1, e2]
  cases udB d <;> rfl
 have inner : ∀ (i : Nat) (hi : i ≤ 1000) (S : List (List Int)) (hS : S.length ≤ 1000000) (r : List (List Int)) (m j : Nat) (acc : List Int), j + m = longL w h d → acc.length ≤ j →
   Ev (fun n => Zan.l0 n d (S ++ [finL d (acc ++ (List.range' j m).map (numL w d i))]) (longL w h d : Nat) (manyL w h d : Nat) ((i + 1 : Nat) : Int) w h l) r →
   Ev (fun n => Zan.l1 n d S (longL w h d : Nat) i acc (manyL w h d : Nat) i (longL w h d : Nat) j w h l) r := by
  intro i hi S hS r m
  have hL := hud _ rfl
  induction m with
  | zero =>
   intro j acc hj ha hr
   refine Ev.shift hr (fun n => ?_)
   simp only [Zan.l1, List.range'_zero, List.map_nil, List.append_nil]
   rw [if_neg (by omega), Zc2 i (by omega), if_pos (show S.length < 5864062014805 by omega)]
   unfold Za8.f finL rvB
   rw [if_pos (show acc.length ≤ 9223372036854775807 by omega)]
   have hS' : S.length < 5864062014805 := by omega
   rcases hd with rfl | rfl | rfl | rfl <;> simp [hS']
  | succ m ih =>
   intro j acc hj ha hr
   refine Ev.shift (g := fun n => Zan.j4 n d S (longL w h d : Nat) i acc j (manyL w h d : Nat) i (longL w h d : Nat) j (udB d) w h l) ?_ (fun n => ?_)
   ·refine num i j hi (by omega) S acc r _ _ (by omega) ?_
    refine ih (j + 1) (acc ++ [numL w d i j]) (by omega) (by simp; omega) ?_
    rw [List.range'_succ, List.map_cons] at hr
    simpa using hr
   ·simp only [Zan.l1]
    rw [if_pos (by omega)]
    unfold udB
    by_cases e : d = 117
    ·rw [if_pos e, e]; rfl
    ·rw [if_neg e, show (d == 117) = false by simpa using e, Bool.false_or]
 have outer : ∀ (m i : Nat) (S : List (List Int)), i + m = manyL w h d → S.length ≤ i →
   Ev (fun n => Zan.l0 n d S (longL w h d : Nat) (manyL w h d : Nat) i w h l) (S ++ (List.range' i m).map (lineL w h d)) := by
  intro m
  induction m with
  | zero =>
   intro i S hi hS
   refine Ev.shift (g := fun _ => some S) (Ev.const (by simp)) (fun n => ?_)
   simp only [Zan.l0]
   rw [if_neg (by omega)]
  | succ m ih =>
   intro i S hi hS
   refine Ev.shift (g := fun n => Zan.l1 n d S (longL w h d : Nat) i [] (manyL w h d : Nat) i (longL w h d : Nat) (0 : Nat) w h l) ?_ (fun n => ?_)
   ·refine inner i (by omega) S (by omega) _ (longL w h d) 0 [] (by omega) (by simp) ?_
    have := ih (i + 1) (S ++ [lineL w h d i]) (by omega) (by simp; omega)
    rw [List.range'_succ, List.map_cons]
    rw [List.nil_append, ← List.range_eq_range']
    simpa [lineL] using this
   ·simp only [Zan.l0]
    rw [if_pos (by omega)]
    rfl
 have start := outer (manyL w h d) 0 [] (by omega) (by simp)
 rw [← List.range_eq_range'] at start
 have start2 : Ev (fun n => Zan.j1 n d [] (manyL w h d : Nat) (longL w h d : Nat) w h l) (Zc5 w h d) := Ev.shift start (fun n => by simp only [Zan.j1]; rfl)
 have start3 : Ev (fun n => Zan.j0 n d [] (h : Int) (w : Int) (udB d) w h l) (Zc5 w h d) := by
  refine Ev.shift start2 (fun n => ?_)
  simp only [Zan.j0]
  unfold manyL longL
  cases udB d <;> rfl
 refine Ev.congr start3 (fun n => ?_)
 unfold Zan.f udB
 simp only [Option.bind_some]
 by_cases e : d = 117
 ·rw [if_pos e, e]; rfl
 ·rw [if_neg e, show (d == 117) = false by simpa using e, Bool.false_or]
def Zda (cells : List Int) : List Int → List Int → List (List Int)
 | acc, [] => if acc = [] then [] else [acc]
 | acc, k :: ks => if rd cells k = 35 then (if acc = [] then Zda cells [] ks else acc :: Zda cells [] ks) else Zda cells (acc ++ [k]) ks
def nwB (cells : List Int) (k : Int) : Bool := rd cells k != 35
def Zfb (cells : List Int) : Bool → List Int → List (List Int)
 | _, [] => []
 | b, k :: ks => if rd cells k = 35 then Zfb cells false ks else if b = true then Zfb cells true ks else (k :: ks.takeWhile (nwB cells)) :: Zfb cells true ks
theorem Zim (cells : List Int) : ∀ (l acc : List Int), Zda cells acc l = if acc = [] then Zfb cells false l else (acc ++ l.takeWhile (nwB cells)) :: Zfb cells true l
 | [], acc => by
  by_cases h : acc = [] <;> simp [Zda, Zfb, h]
 | k :: ks, acc => by
  by_cases h : acc = [] <;> by_cases hk : rd cells k = 35 <;> simp [Zda, Zfb, h, hk, Zim cells ks, List.takeWhile_cons, nwB]
theorem Zd5 (cells : List Int) : ∀ (l acc : List Int), (Zda cells acc l).length ≤ l.length + 1
 | [], acc => by
  by_cases h : acc = [] <;> simp [Zda, h]
 | k :: ks, acc => by
  have h1 := Zd5 cells ks []
  have h2 := Zd5 cells ks (acc ++ [k])
  rw [Zda]
  split
  ·split
   ·simp only [List.length_cons]; omega
   ·simp only [List.length_cons]; omega
  ·simp only [List.length_cons]; omega
def runsL (cells : List Int) (L : List (List Int)) : List (List Int) := L.flatMap (Zda cells [])
theorem Zhd (w h : Int) (cells : List Int) (L : List (List Int)) (hL : L.length ≤ 1000) (hl : ∀ line ∈ L, line.length ≤ 1000) (hin : InC cells L) (R : List (List Int))
  (hR : Za4.f (runsL cells L) = some R) : Ev (fun n => Zar.l0 n [] L (L.length : Int) 0 w h cells) R := by
 have inner : ∀ (i : Nat) (hi : i < L.length) (r : List (List Int)) (m j : Nat) (S : List (List Int)) (acc : List Int), j + m = L[i].length → S.length + m < 5000000 → acc.length ≤ j →
   Ev (fun n => Zar.l0 n (S ++ Zda cells acc (L[i].drop j)) L (L.length : Int) ((i + 1 : Nat) : Int) w h cells) r →
   Ev (fun n => Zar.l1 n S acc L (L.length : Int) i L[i] (L[i].length : Int) j w h cells) r := by
  intro i hi r m
  have hli := hl L[i] (List.getElem_mem _)
  induction m with
  | zero =>
   intro j S acc hj hS ha hr
   refine Ev.shift hr (fun n => ?_)
   simp only [Zar.l1]
   rw [if_neg (by omega), Zc2 i (by omega), List.drop_eq_nil_of_le (by omega), Zda, if_pos (show S.length < 5864062014805 by omega)]
   by_cases e : acc = []
   ·rw [if_pos e, e, if_neg (by simp), List.append_nil]
   ·rw [if_neg e, if_pos (by have := List.length_pos_iff.2 e; omega)]
  | succ m ih =>
   intro j S acc hj hS ha hr
   have hlt : j < L[i].length := by omega
   have hc := hin L[i] (List.getElem_mem _) L[i][j] (List.getElem_mem _)
   rw [Zcq _ j hlt, Zda] at hr
   by_cases h35 : rd cells L[i][j] = 35
   ·rw [if_pos h35] at hr
    by_cases e : acc = []
    ·rw [if_pos e] at hr
     refine Ev.shift (ih (j + 1) S [] (by omega) (by omega) (by simp) hr) (fun n => ?_)
     simp only [Zar.l1]
     rw [if_pos (by omega), if_pos (by omega), if_pos (by omega), rd_n _ _ hlt, if_pos hc.1, if_pos hc.2, if_pos h35, e, if_neg (by simp), Zc2 j (by omega)]
    ·rw [if_neg e] at hr
     refine Ev.shift (ih (j + 1) (S ++ [acc]) [] (by omega) (by rw [List.length_append, List.length_singleton]; omega) (by simp) (by simpa using hr)) (fun n => ?_)
     simp only [Zar.l1]
     rw [if_pos (by omega), if_pos (by omega), if_pos (by omega), rd_n _ _ hlt, if_pos hc.1, if_pos hc.2, if_pos h35, if_pos (by have := List.length_pos_iff.2 e; omega), if_pos (show S.length < 5864062014805 by omega), Zc2 j (by omega)]
   ·rw [if_neg h35] at hr
    refine Ev.shift (ih (j + 1) S (acc ++ [L[i][j]]) (by omega) (by omega) (by rw [List.length_append, List.length_singleton]; omega) hr) (fun n => ?_)
    simp only [Zar.l1]
    rw [if_pos (by omega), if_pos (by omega), if_pos (by omega), rd_n _ _ hlt, if_pos hc.1, if_pos hc.2, if_neg h35, if_pos (show acc.length < 17592186044416 by omega), Zc2 j (by omega)]
 have outer : ∀ (m i : Nat) (S : List (List Int)), i + m = L.length → S.length ≤ i * 1001 → S ++ runsL cells (L.drop i) = runsL cells L → Ev (fun n => Zar.l0 n S L (L.length : Int) (i : Int) w h cells) R := by
  intro m
  induction m with
  | zero =>
   intro i S hi hS he
   rw [List.drop_eq_nil_of_le (by omega), runsL, List.flatMap_nil, List.append_nil] at he
   rw [← he] at hR
   refine Ev.shift (g := fun _ => some R) (Ev.const rfl) (fun n => ?_)
   simp only [Zar.l0]
   rw [if_neg (by omega), hR]
  | succ m ih =>
   intro i S hi hS he
   have hlt : i < L.length := by omega
   have hli := hl L[i] (List.getElem_mem _)
   refine Ev.shift (g := fun n => Zar.l1 n S [] L (L.length : Int) i L[i] (L[i].length : Int) (0 : Nat) w h cells) ?_ (fun n => ?_)
   ·refine inner i hlt _ L[i].length 0 S [] (Nat.zero_add _) (by omega) (by simp) ?_
    have := Zd5 cells L[i] []
    have := ih (i + 1) (S ++ Zda cells [] L[i]) (by omega) (by rw [List.length_append]; omega) (by rw [← he, Zcq L i hlt]; simp only [runsL, List.flatMap_cons, List.append_assoc])
    simpa using this
   ·simp only [Zar.l0]
    rw [if_pos (by omega), if_pos (by omega), if_pos (by omega), rdL_n L i hlt]
    rfl
 have := outer L.length 0 [] (by simp) (by simp) (by simp)
 simpa using this
def dI (d : Int) : Int := if d = 117 then 0 else if d = 114 then 1 else if d = 100 then 2 else 3
def wallW (cells : List Int) (c : Int) : Int := if rd cells c = 35 then -1 else c
def posL (w h : Nat) (d : Int) (i k : Nat) : Int := numL w d i (if rvB d = true then longL w h d - 1 - k else k)
theorem Zeu (w h : Nat) (d : Int) (i : Nat) : lineL w h d i = (List.range (longL w h d)).map (posL w h d i) := by
 unfold lineL finL posL
 cases rvB d
 ·simp
 ·simp only [if_true]
  apply List.ext_getElem
  ·simp
  ·intro n h1 h2
   simp [List.getElem_reverse]
theorem Ze2 (w i k : Nat) (hi : i < w) : ((k * w + i : Nat) : Int) % (w : Int) = i ∧ ((k * w + i : Nat) : Int) / (w : Int) = k := by
 constructor
 ·have : (k * w + i) % w = i := by rw [Nat.add_comm, Nat.add_mul_mod_self_right, Nat.mod_eq_of_lt hi]
  omega
 ·have : (k * w + i) / w = k := by rw [Nat.add_comm, Nat.add_mul_div_right _ _ (by omega), Nat.div_eq_of_lt hi, Nat.zero_add]
  omega
theorem Zd2 (w h : Nat) (cells : List Int) (x y : Int) (xn yn : Nat) (ex : x = xn) (ey : y = yn) (hx : xn < w) (hy : yn < h) : Zdg w h cells x y = wallW cells ((yn * w + xn : Nat) : Int) := by
 subst ex ey
 have e : ((yn : Int) * (w : Int) + (xn : Int)) = ((yn * w + xn : Nat) : Int) := by simp
 unfold Zdg wallW
 rw [if_pos (by omega), e]
theorem Zdp (w h : Nat) (cells : List Int) (x y : Int) (hx : x < 0 ∨ (w : Int) ≤ x ∨ y < 0 ∨ (h : Int) ≤ y) : Zdg w h cells x y = -1 := by
 unfold Zdg
 rw [if_neg (by omega)]
theorem Zkh (w h : Int) (cells : List Int) (c : Int) : Zch w h cells c 0 = Zdg w h cells (c % w) (c / w - 1) := by simp [Zch]
theorem Zkg (w h : Int) (cells : List Int) (c : Int) : Zch w h cells c 1 = Zdg w h cells (c % w + 1) (c / w) := by simp [Zch]
theorem Zkf (w h : Int) (cells : List Int) (c : Int) : Zch w h cells c 2 = Zdg w h cells (c % w) (c / w + 1) := by simp [Zch]
theorem Zke (w h : Int) (cells : List Int) (c : Int) : Zch w h cells c 3 = Zdg w h cells (c % w - 1) (c / w) := by simp [Zch]
theorem Zf8 (w h : Nat) (cells : List Int) (d : Int) (hd : isD d) (i k : Nat) (hi : i < manyL w h d) (hk : k < longL w h d) :
  Zch w h cells (posL w h d i k) (dI d) = (if k = 0 then -1 else wallW cells (posL w h d i (k - 1))) ∧
  Zch w h cells (posL w h d i k) ((dI d + 2) % 4) = (if k + 1 < longL w h d then wallW cells (posL w h d i (k + 1)) else -1) := by
 rcases hd with rfl | rfl | rfl | rfl
 ·have e1 : manyL w h 117 = w := rfl
  have e2 : longL w h 117 = h := rfl
  have e3 : ∀ k, posL w h 117 i k = ((k * w + i : Nat) : Int) := fun k => rfl
  rw [e1] at hi; rw [e2] at hk
  have m := Ze2 w i k hi
  simp only [e2, e3]
  rw [show dI 117 = 0 from rfl, show ((0 : Int) + 2) % 4 = 2 from rfl]
  simp only [Zkh, Zkg, Zkf, Zke, m.1, m.2]
  constructor
  ·by_cases h0 : k = 0
   ·rw [if_pos h0]; exact Zdp _ _ _ _ _ (by omega)
   ·rw [if_neg h0]; exact Zd2 _ _ _ _ _ i (k - 1) rfl (by omega) hi (by omega)
  ·by_cases h0 : k + 1 < h
   ·rw [if_pos h0]; exact Zd2 _ _ _ _ _ i (k + 1) rfl (by omega) hi (by omega)
   ·rw [if_neg h0]; exact Zdp _ _ _ _ _ (by omega)
 ·have e1 : manyL w h 114 = h := rfl
  have e2 : longL w h 114 = w := rfl
  have e3 : ∀ k, posL w h 114 i k = ((i * w + (w - 1 - k) : Nat) : Int) := fun k => rfl
  rw [e1] at hi; rw [e2] at hk
  have m := Ze2 w (w - 1 - k) i (by omega)
  simp only [e2, e3]
  rw [show dI 114 = 1 from rfl, show ((1 : Int) + 2) % 4 = 3 from rfl]
  simp only [Zkh, Zkg, Zkf, Zke, m.1, m.2]
  constructor
  ·by_cases h0 : k = 0
   ·rw [if_pos h0]; exact Zdp _ _ _ _ _ (by omega)
   ·rw [if_neg h0]; exact Zd2 _ _ _ _ _ (w - 1 - (k - 1)) i (by omega) rfl (by omega) hi
  ·by_cases h0 : k + 1 < w
   ·rw [if_pos h0]; exact Zd2 _ _ _ _ _ (w - 1 - (k + 1)) i (by omega) rfl (by omega) hi
   ·rw [if_neg h0]; exact Zdp _ _ _ _ _ (by omega)
 ·have e1 : manyL w h 100 = w := rfl
  have e2 : longL w h 100 = h := rfl
  have e3 : ∀ k, posL w h 100 i k = (((h - 1 - k) * w + i : Nat) : Int) := fun k => rfl
  rw [e1] at hi; rw [e2] at hk
  have m := Ze2 w i (h - 1 - k) hi
  simp only [e2, e3]
  rw [show dI 100 = 2 from rfl, show ((2 : Int) + 2) % 4 = 0 from rfl]
  simp only [Zkh, Zkg, Zkf, Zke, m.1, m.2]
  constructor
  ·by_cases h0 : k = 0
   ·rw [if_pos h0]; exact Zdp _ _ _ _ _ (by omega)
   ·rw [if_neg h0]; exact Zd2 _ _ _ _ _ i (h - 1 - (k - 1)) rfl (by omega) hi (by omega)
  ·by_cases h0 : k + 1 < h
   ·rw [if_pos h0]; exact Zd2 _ _ _ _ _ i (h - 1 - (k + 1)) rfl (by omega) hi (by omega)
   ·rw [if_neg h0]; exact Zdp _ _ _ _ _ (by omega)
 ·have e1 : manyL w h 108 = h := rfl
  have e2 : longL w h 108 = w := rfl
  have e3 : ∀ k, posL w h 108 i k = ((i * w + k : Nat) : Int) := fun k => rfl
  rw [e1] at hi; rw [e2] at hk
  have m := Ze2 w k i hk
  simp only [e2, e3]
  rw [show dI 108 = 3 from rfl, show ((3 : Int) + 2) % 4 = 1 from rfl]
  simp only [Zkh, Zkg, Zkf, Zke, m.1, m.2]
  constructor
  ·by_cases h0 : k = 0
   ·rw [if_pos h0]; exact Zdp _ _ _ _ _ (by omega)
   ·rw [if_neg h0]; exact Zd2 _ _ _ _ _ (k - 1) i (by omega) rfl (by omega) hi
  ·by_cases h0 : k + 1 < w
   ·rw [if_pos h0]; exact Zd2 _ _ _ _ _ (k + 1) i (by omega) rfl (by omega) hi
   ·rw [if_neg h0]; exact Zdp _ _ _ _ _ (by omega)
theorem Zet (w h : Nat) (d : Int) (i k : Nat) : 0 ≤ posL w h d i k := by
 unfold posL numL; split <;> omega
theorem Zgn (cells : List Int) (c : Int) (hc : 0 ≤ c) : wallW cells c < 0 ↔ rd cells c = 35 := by
 unfold wallW; split <;> omega
def headI (w h : Int) (cells : List Int) (d : Int) (c : Int) : Bool := rd cells c != 35 && decide (Zch w h cells c d < 0)
def runI (w h : Int) (cells : List Int) (d : Int) (c : Int) : List Int := c :: Zdq w h cells ((d + 2) % 4) 8 (Zch w h cells c ((d + 2) % 4))
theorem Zkw (w h : Nat) (cells : List Int) (d : Int) (hd : isD d) (i : Nat) (hi : i < manyL w h d) : ∀ (m j n : Nat), j + 1 + m = longL w h d → m ≤ n →
  Zdq w h cells ((dI d + 2) % 4) n (Zch w h cells (posL w h d i j) ((dI d + 2) % 4)) = ((List.range' (j + 1) m).map (posL w h d i)).takeWhile (nwB cells) := by
 intro m
 induction m with
 | zero =>
  intro j n hj hn
  rw [(Zf8 w h cells d hd i j hi (by omega)).2, if_neg (by omega)]
  cases n <;> simp [Zdq]
 | succ m ih =>
  intro j n hj hn
  rw [(Zf8 w h cells d hd i j hi (by omega)).2, if_pos (by omega), List.range'_succ, List.map_cons, List.takeWhile_cons]
  obtain ⟨n, rfl⟩ : ∃ q, n = q + 1 := ⟨n - 1, by omega⟩
  rw [Zdq]
  have hp := Zet w h d i (j + 1)
  have hw := Zgn cells _ hp
  by_cases h35 : rd cells (posL w h d i (j + 1)) = 35
  ·rw [if_neg (by have := hw.2 h35; omega)]
   simp [nwB, h35]
  ·have e : wallW cells (posL w h d i (j + 1)) = posL w h d i (j + 1) := by unfold wallW; rw [if_neg h35]
   rw [e, if_pos (by omega), ih (j + 1) n (by omega) (by omega)]
   simp [nwB, h35]
theorem Zkt (w h : Nat) (hw : w ≤ 8) (hh : h ≤ 8) (cells : List Int) (d : Int) (hd : isD d) (i : Nat) (hi : i < manyL w h d) : ∀ (m j : Nat) (b : Bool), j + m = longL w h d → (b = true ↔ 0 < j ∧ rd cells (posL w h d i (j - 1)) ≠ 35) →
  Zfb cells b ((List.range' j m).map (posL w h d i)) = (((List.range' j m).map (posL w h d i)).filter (headI w h cells (dI d))).map (runI w h cells (dI d)) := by
 have hlong : longL w h d ≤ 8 := by unfold longL; split <;> omega
 intro m
 induction m with
 | zero => intro j b hj hb; simp [Zfb]
 | succ m ih =>
  intro j b hj hb
  have la := (Zf8 w h cells d hd i j hi (by omega)).1
  rw [List.range'_succ, List.map_cons, Zfb, List.filter_cons]
  by_cases h35 : rd cells (posL w h d i j) = 35
  ·rw [if_pos h35, ih (j + 1) false (by omega) (by simp [h35]), if_neg (by simp [headI, h35])]
  ·rw [if_neg h35]
   have ht := ih (j + 1) true (by omega) (by simp [h35])
   by_cases hb1 : b = true
   ·have := hb.1 hb1
    rw [if_pos hb1, ht, if_neg ?_]
    have hp := Zet w h d i (j - 1)
    have hw2 := Zgn cells _ hp
    rw [if_neg (by omega)] at la
    simp only [headI, la, Bool.and_eq_true, decide_eq_true_eq, not_and]
    intro _ hlt
    exact this.2 (hw2.1 hlt)
   ·rw [if_neg hb1, ht, if_pos ?_, List.map_cons]
    ·congr 1
     rw [runI, Zkw w h cells d hd i hi m j 8 (by omega) (by omega)]
    ·have : Zch w h cells (posL w h d i j) (dI d) < 0 := by
      rw [la]
      by_cases h0 : j = 0
      ·rw [if_pos h0]; omega
      ·rw [if_neg h0]
       refine (Zgn cells _ (Zet _ _ _ _ _)).2 ?_
       by_cases q : rd cells (posL w h d i (j - 1)) = 35
       ·exact q
       ·exact absurd (hb.2 ⟨by omega, q⟩) hb1
     simp [headI, h35, this]
theorem runsL_eq (w h : Nat) (hw : w ≤ 8) (hh : h ≤ 8) (cells : List Int) (d : Int) (hd : isD d) : runsL cells (Zc5 w h d) = ((Zc5 w h d).flatten.filter (headI w h cells (dI d))).map (runI w h cells (dI d)) := by
 have one : ∀ i, i < manyL w h d → Zda cells [] (lineL w h d i) = ((lineL w h d i).filter (headI w h cells (dI d))).map (runI w h cells (dI d)) := by
  intro i hi
  rw [Zim, if_pos rfl, Zeu, List.range_eq_range']
  exact Zkt w h hw hh cells d hd i hi _ 0 false (by omega) (by simp)
 have all : ∀ L : List (List Int), (∀ l ∈ L, Zda cells [] l = (l.filter (headI w h cells (dI d))).map (runI w h cells (dI d))) → runsL cells L = (L.flatten.filter (headI w h cells (dI d))).map (runI w h cells (dI d)) := by
  intro L
  induction L with
  | nil => intro _; rfl
  | cons l L ih =>
   intro h1
   have := ih (fun l hl => h1 l (List.mem_cons_of_mem _ hl))
   rw [runsL] at this ⊢
   rw [List.flatMap_cons, List.flatten_cons, List.filter_append, List.map_append, this, h1 l List.mem_cons_self]
 refine all _ (fun l hl => ?_)
 obtain ⟨i, hi, rfl⟩ := List.mem_map.1 hl
 exact one i (List.mem_range.1 hi)
theorem Zji (w h : Nat) (d : Int) (k : Nat) (hk : k < longL w h d) : (if rvB d = true then longL w h d - 1 - k else k) < longL w h d := by
 split <;> omega
theorem Zj4 (w h : Nat) (d : Int) (i k i2 k2 : Nat) (hi : i < manyL w h d) (hk : k < longL w h d) (hi2 : i2 < manyL w h d) (hk2 : k2 < longL w h d) (e : posL w h d i k = posL w h d i2 k2) : i = i2 ∧ k = k2 := by
 have t1 := Zji w h d k hk
 have t2 := Zji w h d k2 hk2
 have key : i = i2 ∧ (if rvB d = true then longL w h d - 1 - k else k) = (if rvB d = true then longL w h d - 1 - k2 else k2) := by
  unfold posL numL at e
  generalize (if rvB d = true then longL w h d - 1 - k else k) = a at *
  generalize (if rvB d = true then longL w h d - 1 - k2 else k2) = b at *
  unfold manyL longL at *
  cases hu : udB d
  ·simp only [hu, Bool.false_eq_true, if_false] at *
   have m1 := Ze2 w a i t1
   have m2 := Ze2 w b i2 t2
   rw [e] at m1
   omega
  ·simp only [hu, if_true] at *
   have m1 := Ze2 w i a hi
   have m2 := Ze2 w i2 b hi2
   rw [e] at m1
   omega
 refine ⟨key.1, ?_⟩
 have := key.2
 split at this <;> omega
theorem posL_lt (w h : Nat) (d : Int) (i k : Nat) (hi : i < manyL w h d) (hk : k < longL w h d) : 0 ≤ posL w h d i k ∧ posL w h d i k < ((w * h : Nat) : Int) := by
 refine ⟨Zet _ _ _ _ _, ?_⟩
 have t1 := Zji w h d k hk
 unfold posL numL
 generalize (if rvB d = true then longL w h d - 1 - k else k) = a at *
 have bd : ∀ x y a b : Nat, x < a → y < b → x * b + y < a * b := by
  intro x y a b hx hy
  have h1 : (x + 1) * b ≤ a * b := Nat.mul_le_mul_right b (by omega)
  rw [Nat.succ_mul] at h1
  omega
 unfold manyL longL at *
 cases hu : udB d
 ·simp only [hu, Bool.false_eq_true, if_false] at *
  have := bd i a h w hi t1
  rw [Nat.mul_comm h w] at this
  omega
 ·simp only [hu, if_true] at *
  have := bd a i h w t1 hi
  rw [Nat.mul_comm h w] at this
  omega
theorem Ze4 (w h : Nat) (d : Int) (c : Int) : c ∈ (Zc5 w h d).flatten ↔ 0 ≤ c ∧ c < ((w * h : Nat) : Int) := by
 constructor
 ·intro hc
  obtain ⟨l, hl, hc⟩ := List.mem_flatten.1 hc
  obtain ⟨i, hi, rfl⟩ := List.mem_map.1 hl
  rw [Zeu] at hc
  obtain ⟨k, hk, rfl⟩ := List.mem_map.1 hc
  exact posL_lt w h d i k (List.mem_range.1 hi) (List.mem_range.1 hk)
 ·rintro ⟨h0, h1⟩
  obtain ⟨n, rfl⟩ : ∃ n : Nat, c = n := ⟨c.toNat, by omega⟩
  have h1 : n < w * h := by omega
  have hw : 0 < w := Nat.pos_of_ne_zero (by rintro rfl; simp at h1)
  have a1 : n % w < w := Nat.mod_lt _ hw
  have a2 : n / w < h := Nat.div_lt_of_lt_mul h1
  have e : n / w * w + n % w = n := by rw [Nat.mul_comm]; exact Nat.div_add_mod n w
  have main : ∀ i t : Nat, i < manyL w h d → t < longL w h d → numL w d i t = (n : Int) → (n : Int) ∈ (Zc5 w h d).flatten := by
   intro i t hi ht he
   refine List.mem_flatten.2 ⟨lineL w h d i, List.mem_map.2 ⟨i, List.mem_range.2 hi, rfl⟩, ?_⟩
   unfold lineL finL
   have : (n : Int) ∈ (List.range (longL w h d)).map (numL w d i) := List.mem_map.2 ⟨t, List.mem_range.2 ht, he⟩
   split
   ·exact List.mem_reverse.2 this
   ·exact this
  cases hu : udB d
  ·refine main (n / w) (n % w) (by unfold manyL; rw [hu]; exact a2) (by unfold longL; rw [hu]; exact a1) ?_
   unfold numL; rw [hu]; simp only [Bool.false_eq_true, if_false]; rw [e]
  ·refine main (n % w) (n / w) (by unfold manyL; rw [hu]; exact a1) (by unfold longL; rw [hu]; exact a2) ?_
   unfold numL; rw [hu]; simp only [if_true]; rw [e]
theorem Zg1 (w h : Nat) (d : Int) : (Zc5 w h d).flatten.Nodup := by
 unfold List.Nodup
 rw [List.pairwise_flatten]
 constructor
 ·intro l hl
  obtain ⟨i, hi, rfl⟩ := List.mem_map.1 hl
  rw [Zeu, List.pairwise_map]
  refine List.Pairwise.imp_of_mem ?_ (List.pairwise_lt_range (n := longL w h d))
  intro a b ha hb hab e
  have := Zj4 w h d i a i b (List.mem_range.1 hi) (List.mem_range.1 ha) (List.mem_range.1 hi) (List.mem_range.1 hb) e
  omega
 ·rw [Zc5, List.pairwise_map]
  refine List.Pairwise.imp_of_mem ?_ (List.pairwise_lt_range (n := manyL w h d))
  intro a b ha hb hab x hx y hy e
  rw [Zeu] at hx hy
  obtain ⟨k, hk, rfl⟩ := List.mem_map.1 hx
  obtain ⟨k2, hk2, rfl⟩ := List.mem_map.1 hy
  have := Zj4 w h d a k b k2 (List.mem_range.1 ha) (List.mem_range.1 hk) (List.mem_range.1 hb) (List.mem_range.1 hk2) e
  omega
theorem Zgq (cells : List Int) : ∀ (l acc : List Int), (Zda cells acc l).flatten = acc ++ l.filter (nwB cells)
 | [], acc => by
  by_cases h : acc = [] <;> simp [Zda, h]
 | k :: ks, acc => by
  by_cases h : acc = [] <;> by_cases hk : rd cells k = 35 <;> simp [Zda, h, hk, Zgq cells ks, nwB, List.filter_cons]
theorem Ze8 (cells : List Int) (L : List (List Int)) : (runsL cells L).flatten = L.flatten.filter (nwB cells) := by
 induction L with
 | nil => rfl
 | cons l L ih =>
  have e : runsL cells (l :: L) = Zda cells [] l ++ runsL cells L := by simp [runsL]
  rw [e, List.flatten_append, ih, Zgq, List.flatten_cons, List.filter_append, List.nil_append]
theorem Zfl (cells : List Int) : ∀ (l acc : List Int), [] ∉ Zda cells acc l
 | [], acc => by
  by_cases h : acc = []
  ·simp [Zda, h]
  ·simp only [Zda, if_neg h, List.mem_singleton]; exact fun q => h q.symm
 | k :: ks, acc => by
  rw [Zda]
  split
  ·split
   ·exact Zfl cells ks []
   ·rename_i h
    simp only [List.mem_cons, not_or]
    exact ⟨fun q => h q.symm, Zfl cells ks []⟩
  ·exact Zfl cells ks _
theorem Zgz (l : List Int) (h : l ≠ []) : Lib.minOf l ∈ l := by
 have main : ∀ (l : List Int) (a : Int), l.foldl min a = a ∨ l.foldl min a ∈ l := by
  intro l
  induction l with
  | nil => intro a; exact Or.inl rfl
  | cons b l ih =>
   intro a
   rw [List.foldl_cons]
   rcases ih (min a b) with q | q
   ·rw [q]
    rcases Int.le_total a b with r | r
    ·left; omega
    ·right; rw [show min a b = b by omega]; exact List.mem_cons_self
   ·right; exact List.mem_cons_of_mem _ q
 unfold Lib.minOf
 cases l with
 | nil => exact absurd rfl h
 | cons b l =>
  rcases main (b :: l) b with q | q
  ·show List.foldl min b (b :: l) ∈ b :: l
   rw [q]; exact List.mem_cons_self
  ·exact q
def strI (w h : Nat) (cells : List Int) (d : Int) : List (List Int) := (runsL cells (Zc5 w h d)).mergeSort Zh6
theorem Zjz (w h : Nat) (cells : List Int) (d : Int) (hw : w ≤ 8) (hh : h ≤ 8) : (runsL cells (Zc5 w h d)).length ≤ 10000 := by
 have hm : manyL w h d ≤ 8 := by unfold manyL; split <;> omega
 have hl : longL w h d ≤ 8 := by unfold longL; split <;> omega
 have main : ∀ L : List (List Int), (∀ l ∈ L, l.length ≤ 8) → (runsL cells L).length ≤ L.length * 9 := by
  intro L
  induction L with
  | nil => intro _; simp [runsL]
  | cons l L ih =>
   intro hL
   have e : runsL cells (l :: L) = Zda cells [] l ++ runsL cells L := by simp [runsL]
   have h1 := Zd5 cells l []
   have h2 := ih (fun l hl => hL l (List.mem_cons_of_mem _ hl))
   have h3 := hL l List.mem_cons_self
   rw [e, List.length_append, List.length_cons]
   omega
 have := main (Zc5 w h d) (by
  intro l hl'
  obtain ⟨i, hi, rfl⟩ := List.mem_map.1 hl'
  rw [Zeu, List.length_map, List.length_range]
  exact hl)
 have e : (Zc5 w h d).length = manyL w h d := by simp [Zc5]
 omega
theorem runs_ok (w h : Nat) (cells : List Int) (d : Int) (hw : w ≤ 8) (hh : h ≤ 8) : Zh5 (runsL cells (Zc5 w h d)) = true := by
 have hlen := Zjz w h cells d hw hh
 have hne : ∀ a ∈ runsL cells (Zc5 w h d), a ≠ [] := by
  rintro a ha rfl
  obtain ⟨l, _, hl⟩ := List.mem_flatMap.1 ha
  exact Zfl cells _ _ hl
 have hfl := Ze8 cells (Zc5 w h d)
 have hmem : ∀ a ∈ runsL cells (Zc5 w h d), 0 ≤ Lib.minOf a ∧ Lib.minOf a < ((w * h : Nat) : Int) := by
  intro a ha
  have : Lib.minOf a ∈ (runsL cells (Zc5 w h d)).flatten := List.mem_flatten.2 ⟨a, ha, Zgz a (hne a ha)⟩
  rw [hfl] at this
  exact (Ze4 w h d _).1 (List.mem_filter.1 this).1
 have hwh : w * h ≤ 64 := Nat.mul_le_mul hw hh
 unfold Zh5
 simp only [Bool.and_eq_true, decide_eq_true_eq, List.all_eq_true]
 refine ⟨⟨by omega, fun a ha => ⟨hne a ha, (hmem a ha).1, by have := (hmem a ha).2; omega⟩⟩, ?_⟩
 have nd : ((runsL cells (Zc5 w h d)).flatten).Nodup := by
  rw [hfl]; exact List.Nodup.sublist List.filter_sublist (Zg1 w h d)
 unfold List.Nodup at nd
 rw [List.pairwise_flatten] at nd
 rw [List.pairwise_map]
 refine List.Pairwise.imp_of_mem ?_ nd.2
 intro a b ha hb hab
 exact hab _ (Zgz a (hne a ha)) _ (Zgz b (hne b hb))
theorem Zii (w h : Nat) (cells : List Int) (d : Int) (hd : isD d) (hw : w ≤ 8) (hh : h ≤ 8) (hl : cells.length = w * h) : Ev (fun k => Zar.f k w h cells d) (strI w h cells d) := by
 have hm : manyL w h d ≤ 8 := by unfold manyL; split <;> omega
 have hl8 : longL w h d ≤ 8 := by unfold longL; split <;> omega
 have e : (Zc5 w h d).length = manyL w h d := by simp [Zc5]
 refine Ev.bind (g := fun k t => Zar.l0 k [] t (t.length : Int) 0 w h cells) (lines_ev w h (by omega) (by omega) cells d hd) ?_
 refine Zhd w h cells (Zc5 w h d) (by omega) (fun l hl' => ?_) (fun l hl' k hk => ?_) _ ?_
 ·obtain ⟨i, hi, rfl⟩ := List.mem_map.1 hl'
  rw [Zeu, List.length_map, List.length_range]; omega
 ·have := (Ze4 w h d k).1 (List.mem_flatten.2 ⟨l, hl', hk⟩)
  omega
 ·unfold Za4.f
  rw [if_pos (runs_ok w h cells d hw hh)]; rfl
theorem Ze0 (w h : Nat) (cells : List Int) (d : Int) : (strI w h cells d).Perm (runsL cells (Zc5 w h d)) := List.mergeSort_perm _ _
theorem Zf1 (w h : Nat) (cells : List Int) (d : Int) : (strI w h cells d).flatten.Nodup := by
 rw [(Ze0 w h cells d).flatten.nodup_iff, Ze8]
 exact List.Nodup.sublist List.filter_sublist (Zg1 w h d)
theorem Zhx (w h : Nat) (cells : List Int) (d c : Int) : c ∈ (strI w h cells d).flatten ↔ (0 ≤ c ∧ c < ((w * h : Nat) : Int)) ∧ rd cells c ≠ 35 := by
 rw [(Ze0 w h cells d).flatten.mem_iff, Ze8, List.mem_filter, Ze4]
 simp [nwB]
theorem strI_len (w h : Nat) (cells : List Int) (d : Int) (hw : w ≤ 8) (hh : h ≤ 8) : (strI w h cells d).length ≤ 10000 := by
 rw [(Ze0 w h cells d).length_eq]; exact Zjz w h cells d hw hh
theorem Zij (w h : Nat) (cells : List Int) (d : Int) (hd : isD d) (hw : w ≤ 8) (hh : h ≤ 8) (hl : cells.length = w * h) (x : List Int) : x ∈ strI w h cells d ↔ x ∈ Zci w h cells (dI d) := by
 rw [(Ze0 w h cells d).mem_iff, runsL_eq w h hw hh cells d hd, Zeh]
 constructor
 ·intro hx
  obtain ⟨c, hc, rfl⟩ := List.mem_map.1 hx
  obtain ⟨hc, hh⟩ := List.mem_filter.1 hc
  have hc := (Ze4 w h d c).1 hc
  obtain ⟨n, rfl⟩ : ∃ n : Nat, c = n := ⟨c.toNat, by omega⟩
  refine ⟨n, by omega, ?_, rfl⟩
  simp only [headI, Bool.and_eq_true, bne_iff_ne, ne_eq, decide_eq_true_eq] at hh
  exact hh
 ·rintro ⟨i, hi, hh, rfl⟩
  refine List.mem_map.2 ⟨(i : Int), List.mem_filter.2 ⟨(Ze4 w h d _).2 ⟨by omega, by omega⟩, ?_⟩, rfl⟩
  simp only [headI, Bool.and_eq_true, bne_iff_ne, ne_eq, decide_eq_true_eq]
  exact hh
def emptC (c : Int) : Int := if ballB c = true then 46 else c
def emptL (cells : List Int) : List Int := cells.map emptC
theorem Zhp (w h : Int) (cells : List Int) (h0 : cells ≠ []) (hl : cells.length < 1000000) : Ev (fun k => Zax.f k w h cells) (w, h, emptL cells) := by
 have main : ∀ (m j : Nat) (x : List Int), j + m = cells.length → x.length = cells.length → x.drop j = cells.drop j → x.take j = (emptL cells).take j →
   Ev (fun k => Zax.l0 k (cells.length : Int) (j : Int) w h x) (w, h, emptL cells) := by
  intro m
  induction m with
  | zero =>
   intro j x hj hx hd ht
   refine Ev.shift (g := fun _ => some (w, h, x)) (Ev.const ?_) (fun k => ?_)
   ·have e1 : x.take j = x := List.take_of_length_le (by omega)
    have e2 : (emptL cells).take j = emptL cells := List.take_of_length_le (by simp [emptL]; omega)
    rw [e1, e2] at ht
    rw [ht]
   ·simp only [Zax.l0]
    rw [if_neg (by omega)]
  | succ m ih =>
   intro j x hj hx hd ht
   have hlt : j < cells.length := by omega
   have hltx : j < x.length := by omega
   have hxj : x[j] = cells[j] := by
    have := hd
    rw [Zcq x j hltx, Zcq cells j hlt] at this
    exact (List.cons.inj this).1
   have hdj : x.drop (j + 1) = cells.drop (j + 1) := by
    have := hd
    rw [Zcq x j hltx, Zcq cells j hlt] at this
    exact (List.cons.inj this).2
   have hle : j < (emptL cells).length := by simp [emptL]; omega
   have hej : (emptL cells)[j] = emptC cells[j] := by simp [emptL]
   refine Ev.shift (g := fun k => Zax.l0 k (cells.length : Int) ((j + 1 : Nat) : Int) w h (if ballB cells[j] = true then x.set j 46 else x)) ?_ (fun k => ?_)
   ·refine ih (j + 1) _ (by omega) (by split <;> simp [hx]) ?_ ?_
    ·split
     ·rw [List.drop_set_of_lt (by omega)]; exact hdj
     ·exact hdj
    ·rw [← List.take_append_getElem hle, hej, ← ht]
     split
     ·rename_i hb
      rw [← List.take_append_getElem (by simpa using hltx), List.getElem_set_self, List.take_set_of_le (by omega)]
      simp [emptC, hb]
     ·rename_i hb
      rw [← List.take_append_getElem hltx, hxj]
      simp [emptC, hb]
   ·simp only [Zax.l0]
    rw [if_pos (by omega), if_pos (by omega), if_pos (by omega), rd_n x j hltx, hxj, Zfs, Zc2 j (by omega), Option.bind_some, Int.toNat_natCast]
    cases ballB cells[j] <;> rfl
 refine Ev.congr (main cells.length 0 cells (by omega) rfl rfl rfl) (fun k => ?_)
 unfold Zax.f Zb0.f Zbz.f
 rw [if_pos ⟨h0, by omega⟩]
 rfl
def cntB (cells ks : List Int) : Nat := (ks.filter fun k => ballB (rd cells k)).length
theorem Zh4 (cells own : List Int) : ∀ (ks : List Int) (n : Int), (mvGo cells own n ks).map (·.1) = ks.filter fun k => ballB (rd cells k)
 | [], n => rfl
 | k :: ks, n => by
  rw [mvGo, List.filter_cons]
  split
  ·rw [List.map_cons, Zh4]
  ·rw [Zh4]
theorem Zh3 (cells own : List Int) : ∀ (ks : List Int) (n : Nat), n + cntB cells ks ≤ own.length → (mvGo cells own n ks).map (·.2) = (own.drop n).take (cntB cells ks)
 | [], n, _ => by simp [mvGo, cntB]
 | k :: ks, n, hn => by
  have e : cntB cells (k :: ks) = if ballB (rd cells k) = true then cntB cells ks + 1 else cntB cells ks := by
   unfold cntB; rw [List.filter_cons]; split <;> simp
  rw [mvGo, e]
  rw [e] at hn
  split
  ·rename_i hb
   rw [if_pos hb] at hn
   have := Zh3 cells own ks (n + 1) (by omega)
   rw [List.map_cons, Zcq own n (by omega), List.take_succ_cons, rd_n own n (by omega), show ((n : Int) + 1) = ((n + 1 : Nat) : Int) by omega, this]
  ·rename_i hb
   rw [if_neg hb] at hn
   exact Zh3 cells own ks n hn
theorem cntB_le (cells ks : List Int) : cntB cells ks ≤ ks.length := List.length_filter_le _ _
theorem Ziv (cells : List Int) (S : List (List Int)) : (mvAll cells S).map (·.1) = S.flatten.filter fun k => ballB (rd cells k) := by
 unfold mvAll
 induction S with
 | nil => rfl
 | cons s S ih => rw [List.flatMap_cons, List.map_append, ih, Zh4, List.flatten_cons, List.filter_append]
theorem Zfr (cells : List Int) (S : List (List Int)) : ((mvAll cells S).map (·.2)).Sublist S.flatten := by
 unfold mvAll
 induction S with
 | nil => exact List.Sublist.refl _
 | cons s S ih =>
  rw [List.flatMap_cons, List.map_append, List.flatten_cons]
  refine List.Sublist.append ?_ ih
  have := Zh3 cells s s 0 (by have := cntB_le cells s; omega)
  rw [show ((0 : Nat) : Int) = 0 from rfl] at this
  rw [this]
  exact (List.take_sublist _ _).trans (List.drop_sublist _ _)
def tiltI (w h : Nat) (cells : List Int) (d : Int) : List Int := Zdj cells (emptL cells) (mvAll cells (strI w h cells d))
theorem Zhy (w h : Nat) (cells : List Int) (d : Int) (hw : w ≤ 8) (hh : h ≤ 8) : (strI w h cells d).flatten.length ≤ 64 := by
 have hm : manyL w h d ≤ 8 := by unfold manyL; split <;> omega
 have hl : longL w h d ≤ 8 := by unfold longL; split <;> omega
 rw [(Ze0 w h cells d).flatten.length_eq, Ze8]
 refine Nat.le_trans (List.length_filter_le _ _) ?_
 have : ∀ L : List (List Int), (∀ l ∈ L, l.length ≤ 8) → L.flatten.length ≤ L.length * 8 := by
  intro L
  induction L with
  | nil => intro _; simp
  | cons l L ih =>
   intro hL
   have h2 := ih (fun l hl => hL l (List.mem_cons_of_mem _ hl))
   have h3 := hL l List.mem_cons_self
   rw [List.flatten_cons, List.length_append, List.length_cons]
   omega
 have := this (Zc5 w h d) (by
  intro l hl'
  obtain ⟨i, hi, rfl⟩ := List.mem_map.1 hl'
  rw [Zeu, List.length_map, List.length_range]
  exact hl)
 have e : (Zc5 w h d).length = manyL w h d := by simp [Zc5]
 omega
theorem mv_mem (w h : Nat) (cells : List Int) (d : Int) (p : Int × Int) (hp : p ∈ mvAll cells (strI w h cells d)) :
  (0 ≤ p.1 ∧ p.1 < ((w * h : Nat) : Int)) ∧ ballB (rd cells p.1) = true ∧ (0 ≤ p.2 ∧ p.2 < ((w * h : Nat) : Int)) := by
 have h1 : p.1 ∈ (mvAll cells (strI w h cells d)).map (·.1) := List.mem_map.2 ⟨p, hp, rfl⟩
 have h2 : p.2 ∈ (mvAll cells (strI w h cells d)).map (·.2) := List.mem_map.2 ⟨p, hp, rfl⟩
 rw [Ziv, List.mem_filter] at h1
 have h2 := (Zfr cells _).subset h2
 exact ⟨((Zhx w h cells d _).1 h1.1).1, h1.2, ((Zhx w h cells d _).1 h2).1⟩
theorem Zk5 (w h : Nat) (cells : List Int) (d : Int) (hd : isD d) (hw0 : 0 < w) (hh0 : 0 < h) (hw : w ≤ 8) (hh : h ≤ 8) (hl : cells.length = w * h) : Ev (fun k => Zcg.f k w h cells d) ((w : Int), (h : Int), tiltI w h cells d) := by
 have hwh : w * h ≤ 64 := Nat.mul_le_mul hw hh
 have hwh0 : 0 < w * h := Nat.mul_pos hw0 hh0
 have hne : cells ≠ [] := by rintro rfl; simp at hl; omega
 have fl := Zhy w h cells d hw hh
 have hel : (emptL cells).length = w * h := by simp [emptL, hl]
 have e1 : Zio cells (strI w h cells d) = some (mvAll cells (strI w h cells d)) := by
  unfold Zio
  rw [if_pos ?_]
  refine ⟨?_, by omega, by have := strI_len w h cells d hw hh; omega, ?_, ?_⟩
  ·unfold Zfg
   simp only [List.all_eq_true, Bool.and_eq_true, decide_eq_true_eq]
   intro own ho k hk
   have := (Zhx w h cells d k).1 (List.mem_flatten.2 ⟨own, ho, hk⟩)
   omega
  ·have := (Zfr cells (strI w h cells d)).length_le
   rw [List.length_map] at this
   omega
  ·intro own ho
   have := (List.sublist_flatten_of_mem ho).length_le
   omega
 have e2 : mvOk cells.length (emptL cells).length (mvAll cells (strI w h cells d)) = true := by
  rw [hel, hl]
  unfold mvOk
  simp only [Bool.and_eq_true, List.all_eq_true, decide_eq_true_eq]
  have n1 : ((mvAll cells (strI w h cells d)).map (·.1)).Nodup := by
   rw [Ziv]; exact List.Nodup.sublist List.filter_sublist (Zf1 w h cells d)
  have n2 : ((mvAll cells (strI w h cells d)).map (·.2)).Nodup := List.Nodup.sublist (Zfr cells _) (Zf1 w h cells d)
  unfold List.Nodup at n1 n2
  rw [List.pairwise_map] at n1 n2
  refine ⟨⟨⟨⟨⟨?_, n1⟩, n2⟩, hwh0⟩, by omega⟩, by omega⟩
  intro p hp
  have := mv_mem w h cells d p hp
  exact ⟨⟨⟨this.1.1, this.1.2⟩, this.2.2.1⟩, this.2.2.2⟩
 obtain ⟨k1, h1⟩ := Zii w h cells d hd hw hh hl
 obtain ⟨k2, h2⟩ := Zhp w h cells hne (by omega)
 refine ⟨max k1 k2, fun k hk => ?_⟩
 show Zcg.f k w h cells d = _
 unfold Zcg.f
 rw [show Zar.f k w h cells d = _ from h1 k (by omega), show Zax.f k w h cells = _ from h2 k (by omega), Option.bind_some, e1, Option.bind_some, Option.bind_some, if_pos e2]
 rfl
theorem Zka (w h : Int) (cells : List Int) (d : Int) : ∀ (L : List Nat) (S : List (List Int)), (L.foldl (stepS w h cells d) S).length ≤ S.length + L.length
 | [], S => by simp
 | i :: L, S => by
  have h1 := Zka w h cells d L (stepS w h cells d S i)
  have h2 : (stepS w h cells d S i).length ≤ S.length + 1 := by
   unfold stepS
   split
   ·omega
   ·split
    ·omega
    ·rw [Zff]; omega
  rw [List.foldl_cons, List.length_cons]
  omega
theorem Zhe (w h : Int) (cells : List Int) (d : Int) : (Zci w h cells d).length ≤ cells.length := by
 have := Zka w h cells d (List.range cells.length) []
 simpa [Zci] using this
open Go.PW.PrintMore
def dirIx (c : UInt8) : Int := if c = 117 then 0 else if c = 114 then 1 else if c = 100 then 2 else if c = 108 then 3 else -1
theorem Zek (c : UInt8) : (⟨#[c]⟩ : ByteArray).toList = [c] := by rw [Lib.toList_data]
theorem dirs_at : ((⟨#[117, 114, 100, 108]⟩ : ByteArray).extract 0 1).toList = [117] ∧ ((⟨#[117, 114, 100, 108]⟩ : ByteArray).extract 1 2).toList = [114] ∧ ((⟨#[117, 114, 100, 108]⟩ : ByteArray).extract 2 3).toList = [100] ∧ ((⟨#[117, 114, 100, 108]⟩ : ByteArray).extract 3 4).toList = [108] := by
 refine ⟨?_, ?_, ?_, ?_⟩ <;> rw [Lib.extract_toList] <;> rfl
theorem Zfu : (⟨#[117, 114, 100, 108]⟩ : ByteArray).size = 4 := rfl
theorem Zft : (Zc9.f) = some (⟨#[117, 114, 100, 108]⟩ : ByteArray) := rfl
theorem tiDir_l0 (k : Nat) (x : ByteArray) (y : Int) : Zbq.l0 (k + 1) x y = if y < 4 then ((Zc9.f).bind fun t101 => (if 0 ≤ y then (if y ≤ (wrap64 (y + 1)) then (if (wrap64 (y + 1)) ≤ (t101.size : Int) then (if x.toList = (t101.extract y.toNat ((wrap64 (y + 1)) : Int).toNat).toList then (some y) else (Zbq.l0 k x (wrap64 (y + 1)))) else (none)) else (none)) else (none))) else (some (-1)) := by
 simp only [Zbq.l0]
theorem Zjw (k : Nat) (x D : ByteArray) (j : Nat) (hj : j < 4) (hD : Zc9.f = some D) (hz : D.size = 4) : Zbq.l0 (k + 1) x (j : Int) = if x.toList = (D.extract j (j + 1)).toList then some (j : Int) else Zbq.l0 k x ((j + 1 : Nat) : Int) := by
 rw [tiDir_l0, hD, Option.bind_some, if_pos (by omega), if_pos (by omega), Zc2 j (by omega), if_pos (by omega), hz, if_pos (by omega), Int.toNat_natCast, Int.toNat_natCast]
theorem Ze7 (x D : ByteArray) (c e : UInt8) (j : Nat) (hj : j < 4) (hD : Zc9.f = some D) (hz : D.size = 4) (hx : x.toList = [c]) (he : (D.extract j (j + 1)).toList = [e]) (r : Int) (h1 : c = e → r = j) (h2 : c ≠ e → Ev (fun k => Zbq.l0 k x ((j + 1 : Nat) : Int)) r) :
  Ev (fun k => Zbq.l0 k x (j : Int)) r := by
 by_cases h : c = e
 ·refine Ev.shift (g := fun _ => some r) (Ev.const rfl) (fun k => ?_)
  rw [Zjw k x D j hj hD hz, hx, he, if_pos (by rw [h]), h1 h]
 ·refine Ev.shift (h2 h) (fun k => ?_)
  rw [Zjw k x D j hj hD hz, hx, he, if_neg (by simpa using h)]
theorem Zjv (c : UInt8) : Ev (fun k => Zbq.f k ⟨#[c]⟩) (dirIx c) := by
 have d := dirs_at
 refine Ev.congr (g := fun k => Zbq.l0 k ⟨#[c]⟩ ((0 : Nat) : Int)) ?_ (fun k => rfl)
 refine Ze7 _ _ c 117 0 (by omega) Zft Zfu (Zek c) d.1 _ (fun h => by rw [h]; rfl) (fun h0 => ?_)
 refine Ze7 _ _ c 114 1 (by omega) Zft Zfu (Zek c) d.2.1 _ (fun h => by rw [h]; rfl) (fun h1 => ?_)
 refine Ze7 _ _ c 100 2 (by omega) Zft Zfu (Zek c) d.2.2.1 _ (fun h => by rw [h]; rfl) (fun h2 => ?_)
 refine Ze7 _ _ c 108 3 (by omega) Zft Zfu (Zek c) d.2.2.2 _ (fun h => by rw [h]; rfl) (fun h3 => ?_)
 refine Ev.shift (g := fun _ => some (dirIx c)) (Ev.const rfl) (fun k => ?_)
 simp only [Zbq.l0]
 rw [if_neg (by omega)]
 simp [dirIx, h0, h1, h2, h3]
theorem Zlz (s : ByteArray) (i : Nat) (hi : i < s.data.toList.length) : s.extract i (i + 1) = ⟨#[s.data.toList[i]]⟩ := by
 rw [Lib.extract_eq, show i + 1 - i = 1 by omega, Zcq _ i hi, List.take_succ_cons, List.take_zero]
def goodD (c : UInt8) : Prop := c = 117 ∨ c = 114 ∨ c = 100 ∨ c = 108
theorem Ziy (c : UInt8) (h : goodD c) : isD (c.toNat : Int) ∧ dI (c.toNat : Int) = dirIx c := by
 rcases h with rfl | rfl | rfl | rfl
 ·exact ⟨Or.inl rfl, rfl⟩
 ·exact ⟨Or.inr (Or.inl rfl), rfl⟩
 ·exact ⟨Or.inr (Or.inr (Or.inl rfl)), rfl⟩
 ·exact ⟨Or.inr (Or.inr (Or.inr rfl)), rfl⟩
theorem goodD_ix (c : UInt8) : goodD c ↔ 0 ≤ dirIx c := by
 unfold goodD dirIx
 constructor
 ·rintro (rfl | rfl | rfl | rfl) <;> decide
 ·intro h
  split at h
  ·exact Or.inl (by assumption)
  ·split at h
   ·exact Or.inr (Or.inl (by assumption))
   ·split at h
    ·exact Or.inr (Or.inr (Or.inl (by assumption)))
    ·split at h
     ·exact Or.inr (Or.inr (Or.inr (by assumption)))
     ·omega
def consH (c : UInt8) : List (List UInt8) → List (List UInt8)
 | [] => [[c]]
 | r :: rs => (c :: r) :: rs
def Zbj : List UInt8 → List (List UInt8)
 | [] => [[]]
 | c :: cs => if c = 47 then [] :: Zbj cs else consH c (Zbj cs)
theorem Zej : ∀ l, Zbj l ≠ []
 | [] => by simp [Zbj]
 | c :: cs => by
  rw [Zbj]
  split
  ·simp
  ·cases Zbj cs <;> simp [consH]
theorem Zgt : ∀ l : List UInt8, l.count 47 = 0 → Zbj l = [l]
 | [], _ => rfl
 | c :: cs, h => by
  have hc : c ≠ 47 := by rintro rfl; simp at h
  have h2 : cs.count 47 = 0 := by rw [List.count_cons_of_ne hc] at h; exact h
  rw [Zbj, if_neg hc, Zgt cs h2, consH]
theorem Zgs : ∀ l : List UInt8, l.count 47 ≠ 0 → ∃ m : Nat, Lib.indexByte l 47 = m ∧ m < l.length ∧ Zbj l = l.take m :: Zbj (l.drop (m + 1)) ∧ (l.drop (m + 1)).count 47 + 1 = l.count 47
 | [], h => by simp at h
 | c :: cs, h => by
  by_cases hc : c = 47
  ·subst hc
   refine ⟨0, by simp [Lib.indexByte], by simp, by simp [Zbj], by simp⟩
  ·have e : (c :: cs).count 47 = cs.count 47 := List.count_cons_of_ne hc
   rw [e] at h
   obtain ⟨m, h1, h2, h3, h4⟩ := Zgs cs h
   refine ⟨m + 1, ?_, by simp only [List.length_cons]; omega, ?_, ?_⟩
   ·have hb : (c == 47) = false := by simpa using hc
    have hn : ((m : Int) == -1) = false := beq_eq_false_iff_ne.2 (by omega)
    rw [Lib.indexByte, hb, h1, hn]
    simp
   ·rw [Zbj, if_neg hc, h3, consH]; simp
   ·rw [e]; simpa using h4
theorem Zf4 : ∀ l : List UInt8, (Zbj l).length = l.count 47 + 1
 | [] => rfl
 | c :: cs => by
  have ih := Zf4 cs
  rw [Zbj]
  by_cases hc : c = 47
  ·rw [if_pos hc, List.length_cons, ih, hc]; simp
  ·rw [if_neg hc, List.count_cons_of_ne hc]
   have := Zej cs
   revert ih this
   cases Zbj cs with
   | nil => intro _ q; exact absurd rfl q
   | cons r rs => intro q _; simpa [consH] using q
def baOf (l : List UInt8) : ByteArray := ⟨l.toArray⟩
theorem Zfy (l : List UInt8) : (baOf l).data.toList = l := rfl
theorem Zl3 (s : ByteArray) : baOf s.data.toList = s := Lib.mk_data s
theorem Zf3 : (⟨#[47]⟩ : ByteArray).size = 1 := rfl
theorem Zjl (s : ByteArray) : Zcw.f s ⟨#[47]⟩ = some (Lib.indexByte s.data.toList 47) := by
 unfold Zcw.f; rw [if_pos Zf3]; rfl
theorem Zjo (s : ByteArray) : Zb9.f s ⟨#[47]⟩ = some ((s.data.toList.count 47 : Nat) : Int) := by
 unfold Zb9.f; rw [if_pos Zf3]; rfl
theorem mn_le (a b : Int) (h : a ≤ b) : mn a b = a := by unfold mn; omega
theorem Zhh (n : Nat) (hn : n < 4294967296) : ∀ (c i : Nat) (s : ByteArray) (done : List ByteArray), s.size < 4294967296 → s.data.toList.count 47 = c → i + c + 1 = n → done.length = i →
  Ev (fun k => Zau.l0 k s ⟨#[47]⟩ 0 ((n : Int) - 1) (done ++ List.replicate (n - i) ⟨#[]⟩) (i : Int)) (done ++ (Zbj s.data.toList).map baOf)
 | 0, i, s, done, hs, hc, hi, hd => by
  have hlen : (done ++ List.replicate (n - i) (⟨#[]⟩ : ByteArray)).length = n := by simp; omega
  refine Ev.shift (g := fun _ => some (done ++ (Zbj s.data.toList).map baOf)) (Ev.const rfl) (fun k => ?_)
  simp only [Zau.l0]
  rw [if_neg (by omega), if_pos (by omega), hlen, if_pos (by omega), Zc2 i (by omega), if_pos (by omega), if_pos (by omega), Zgt _ hc, List.map_singleton, Zl3, Int.toNat_natCast, Int.toNat_natCast]
  congr 1
  rw [show n - i = 0 + 1 by omega, List.replicate_succ, List.replicate_zero, List.set_append_right _ _ (by omega), hd, Nat.sub_self, List.set_cons_zero, List.take_of_length_le (by simp only [List.length_append, List.length_singleton]; omega)]
 | c + 1, i, s, done, hs, hc, hi, hd => by
  have hlen : (done ++ List.replicate (n - i) (⟨#[]⟩ : ByteArray)).length = n := by simp; omega
  obtain ⟨m, h1, h2, h3, h4⟩ := Zgs s.data.toList (by omega)
  have hsz : s.size = s.data.toList.length := Lib.size_eq s
  have hdrop : (s.extract (m + 1) s.size).data.toList = s.data.toList.drop (m + 1) := by
   rw [Lib.extract_data, List.take_of_length_le (by rw [List.length_drop]; omega)]
  have htake : s.extract 0 m = baOf (s.data.toList.take m) := by rw [Lib.extract_eq]; rfl
  have ih := Zhh n hn c (i + 1) (s.extract (m + 1) s.size) (done ++ [baOf (s.data.toList.take m)]) (by rw [Lib.size_eq, hdrop, List.length_drop]; omega) (by rw [hdrop]; omega) (by omega) (by simp; omega)
  rw [hdrop] at ih
  refine Ev.shift (g := fun k => Zau.l0 k (s.extract (m + 1) s.size) ⟨#[47]⟩ 0 ((n : Int) - 1) (done ++ [baOf (s.data.toList.take m)] ++ List.replicate (n - (i + 1)) ⟨#[]⟩) ((i + 1 : Nat) : Int)) ?_ (fun k => ?_)
  ·rw [h3, List.map_cons]
   simpa using ih
  ·simp only [Zau.l0]
   rw [if_pos (by omega), Zjl, h1, Option.bind_some, if_neg (by omega), Int.add_zero, Zf3, Zdd (x := (m : Int)) (by omega) (by omega), if_pos (by omega), if_pos (by omega), if_pos (by omega), hlen, if_pos (by omega),
    show (m : Int) + ((1 : Nat) : Int) = ((m + 1 : Nat) : Int) by omega, Zdd (x := ((m + 1 : Nat) : Int)) (by omega) (by omega), if_pos (by omega), if_pos (by omega), Zc2 i (by omega), Int.toNat_natCast, Int.toNat_natCast, Int.toNat_natCast, htake]
   congr 1
   rw [show n - i = (n - (i + 1)) + 1 by omega, List.replicate_succ, List.set_append_right _ _ (by omega), hd, Nat.sub_self, List.set_cons_zero]
   simp
theorem Zjy (s : ByteArray) (hs : s.size < 4294967290) : Ev (fun k => Zcj.f k s ⟨#[47]⟩) ((Zbj s.data.toList).map baOf) := by
 have hsz : s.size = s.data.toList.length := Lib.size_eq s
 have hcl : s.data.toList.count 47 ≤ s.data.toList.length := List.count_le_length
 have main := Zhh (s.data.toList.count 47 + 1) (by omega) (s.data.toList.count 47) 0 s [] (by omega) rfl (by omega) rfl
 have g0 : Ev (fun k => Zau.j0 k s ⟨#[47]⟩ 0 ((s.data.toList.count 47 + 1 : Nat) : Int)) ((Zbj s.data.toList).map baOf) := by
  refine Ev.shift (g := fun k => Zau.l0 k s ⟨#[47]⟩ 0 (((s.data.toList.count 47 + 1 : Nat) : Int) - 1) (List.replicate (s.data.toList.count 47 + 1) ⟨#[]⟩) 0) (by simpa using main) (fun k => ?_)
  simp only [Zau.j0]
  rw [Zc2 s.size (by omega), mn_le _ _ (by omega), if_pos (by omega), Int.toNat_natCast, if_pos (by omega), Zdd (by omega) (by omega)]
 refine Ev.congr g0 (fun k => ?_)
 unfold Zcj.f Zau.f
 rw [if_neg (by omega), if_neg (by rw [Zek]; simp), if_pos (by omega), Zjo, Option.bind_some, Zc2 _ (by omega)]
 cases Zau.j0 k s ⟨#[47]⟩ 0 ((s.data.toList.count 47 + 1 : Nat) : Int) <;> rfl
def okC (c : UInt8) : Bool := c == 35 || c == 46 || ballB (c.toNat : Int)
def Zcs (l : List UInt8) : Nat := ((Zbj l).headD []).length
def Zce (l : List UInt8) : Nat := (Zbj l).length
def Zd3 (l : List UInt8) : Bool := ([97, 98, 99, 100, 101, 102] : List UInt8).all fun c => decide (l.count c ≤ 1)
def Zea (w h : Nat) : Bool := decide (1 ≤ w) && decide (w ≤ 7) && decide (1 ≤ h) && decide (h ≤ 7) && decide (w * h ≤ 36)
def rowOk (w : Nat) (r : List UInt8) : Bool := decide (r.length = w) && r.all okC
def okT (l : List UInt8) : Bool := Zea (Zcs l) (Zce l) && (Zbj l).all (rowOk (Zcs l)) && Zd3 l
def Zbv (l : List UInt8) : List Int := (Zbj l).flatten.map fun b => (b.toNat : Int)
theorem Zd6 (p : UInt8 → Bool) : ∀ l : List UInt8, l.dropWhile p = [] ↔ l.all p = true
 | [] => by simp
 | c :: cs => by
  rw [List.dropWhile_cons, List.all_cons]
  cases hc : p c
  ·simp
  ·simpa using Zd6 p cs
theorem Zk4 (l cs : List UInt8) : Lib.trimS l cs = [] ↔ l.all (fun c => cs.contains c) = true := by
 unfold Lib.trimS Lib.trimLeftS Lib.trimRightS
 constructor
 ·intro h
  rw [Zd6] at h
  have hr : l.reverse.dropWhile (fun x => cs.contains x) = [] := by
   cases hq : l.reverse.dropWhile (fun x => cs.contains x) with
   | nil => rfl
   | cons a q =>
    have h1 : cs.contains a = true := by
     rw [hq, List.all_reverse, List.all_cons, Bool.and_eq_true] at h
     exact h.1
    have := List.head_dropWhile_not (p := fun x => cs.contains x) (l := l.reverse) (by rw [hq]; simp)
    simp only [hq, List.head_cons] at this
    rw [h1] at this
    cases this
  rw [Zd6, List.all_reverse] at hr
  exact hr
 ·intro h
  have hr : l.reverse.dropWhile (fun x => cs.contains x) = [] := by rw [Zd6, List.all_reverse]; exact h
  rw [hr]
  rfl
theorem Zk3 (s cut : ByteArray) (hs : s.size < 4294967296) (h1 : cut.size < 1000) (h2 : cut.data.toList.all (fun c => decide (c.toNat < 128)) = true) : ∃ t, Zcl.f s cut = some t ∧ (t.toList = [] ↔ s.data.toList.all (fun c => cut.data.toList.contains c) = true) := by
 refine ⟨⟨(Lib.trimS s.data.toList cut.data.toList).toArray⟩, ?_, ?_⟩
 ·unfold Zcl.f
  rw [if_pos ⟨by omega, h1, h2⟩]
 ·rw [Lib.toList_data]; exact Zk4 _ _
theorem okC_cut : ∀ c : UInt8, ([35, 46, 111, 97, 98, 99, 100, 101, 102] : List UInt8).contains c = okC c := by
 have h : ∀ n : Nat, n < 256 → ([35, 46, 111, 97, 98, 99, 100, 101, 102] : List UInt8).contains (UInt8.ofNat n) = okC (UInt8.ofNat n) := by decide +kernel
 intro c
 have := h c.toNat c.toNat_lt
 rwa [UInt8.ofNat_toNat] at this
theorem Zlr (w h : Nat) : Zcy.f w h = some (Zea w h) := by
 unfold Zcy.f Zbr.f Zea
 by_cases h1 : 1 ≤ w
 ·by_cases h2 : w ≤ 7
  ·by_cases h3 : 1 ≤ h
   ·by_cases h4 : h ≤ 7
    ·have hm : w * h ≤ 49 := Nat.mul_le_mul h2 h4
     have e : wrap64 ((w : Int) * (h : Int)) = ((w * h : Nat) : Int) := by
      rw [← Int.natCast_mul, Zdd (by omega) (by omega)]
     rw [e]
     simp only [h1, h2, h3, h4, decide_true, Bool.and_true, Bool.true_and]
     rw [if_pos (by omega)]
     simp only [Option.bind_some]
     rw [if_pos (by simp; omega), if_pos (by omega)]
     simp only [Option.bind_some]
     rw [if_pos (by simp; omega)]
     congr 1
     rw [decide_eq_decide]; omega
    ·rw [if_pos (by omega), if_pos (by omega)]
     simp [h1, h2, h3, h4] <;> omega
   ·rw [if_pos (by omega), if_neg (by omega)]
    simp [h1, h2, h3] <;> omega
  ·rw [if_pos (by omega)]
   simp [h1, h2] <;> omega
 ·rw [if_neg (by omega)]
  simp [h1]
theorem Zj3 (L : List ByteArray) (j : Nat) (h : j < L.length) : rdOf ByteArray.empty L (j : Int) = L[j] := by
 simp [rdOf, List.getD_eq_getElem?_getD, List.getElem?_eq_getElem h]
theorem name_enc : ∀ n : Nat, n < 128 → (Utf8.encode (n : Int)) = ⟨#[UInt8.ofNat n]⟩ := by decide
theorem wrap32_n (j : Nat) (h : j < 1000) : wrap32 ((j : Int) + 1) = ((j + 1 : Nat) : Int) := by
 unfold wrap32; omega
theorem names_ev (t : ByteArray) : Ev (fun k => Za3.l1 k t 97) (Zd3 t.data.toList) := by
 have step : ∀ (j : Nat) (r : Bool), 97 ≤ j → j ≤ 102 → (Ev (fun k => Za3.l1 k t ((j + 1 : Nat) : Int)) r) → Ev (fun k => Za3.l1 k t (j : Int)) (decide (t.data.toList.count (UInt8.ofNat j) ≤ 1) && r) := by
  intro j r h1 h2 hr
  have hc : Zb9.f t (Utf8.encode (j : Int)) = some ((t.data.toList.count (UInt8.ofNat j) : Nat) : Int) := by
   rw [name_enc j (by omega)]
   unfold Zb9.f
   rw [if_pos (show (⟨#[UInt8.ofNat j]⟩ : ByteArray).size = 1 from rfl)]
   rfl
  refine Ev.shift (g := fun k => if t.data.toList.count (UInt8.ofNat j) ≤ 1 then Za3.l1 k t ((j + 1 : Nat) : Int) else some false) ?_ (fun k => ?_)
  ·by_cases q : t.data.toList.count (UInt8.ofNat j) ≤ 1
   ·simp only [if_pos q, decide_eq_true q, Bool.true_and]; exact hr
   ·simp only [if_neg q, decide_eq_false q, Bool.false_and]; exact Ev.const rfl
  ·simp only [Za3.l1]
   rw [if_pos (by omega), hc, Option.bind_some, wrap32_n j (by omega)]
   by_cases q : t.data.toList.count (UInt8.ofNat j) ≤ 1
   ·rw [if_neg (by omega), if_pos q]
   ·rw [if_pos (by omega), if_neg q]
 have last : Ev (fun k => Za3.l1 k t ((103 : Nat) : Int)) true := by
  refine Ev.shift (g := fun _ => some true) (Ev.const rfl) (fun k => ?_)
  simp only [Za3.l1]
  rw [if_neg (by omega)]
 have h := step 97 _ (by omega) (by omega) (step 98 _ (by omega) (by omega) (step 99 _ (by omega) (by omega) (step 100 _ (by omega) (by omega) (step 101 _ (by omega) (by omega) (step 102 _ (by omega) (by omega) last)))))
 have e : Zd3 t.data.toList = (decide (t.data.toList.count (UInt8.ofNat 97) ≤ 1) && (decide (t.data.toList.count (UInt8.ofNat 98) ≤ 1) && (decide (t.data.toList.count (UInt8.ofNat 99) ≤ 1) && (decide (t.data.toList.count (UInt8.ofNat 100) ≤ 1) && (decide (t.data.toList.count (UInt8.ofNat 101) ≤ 1) && (decide (t.data.toList.count (UInt8.ofNat 102) ≤ 1) && true)))))) := rfl
 rw [e]
 exact h
theorem Zla (t : ByteArray) (L : List ByteArray) (hL : L.length < 4294967296) (h0 : 0 < L.length) (hs : ∀ r ∈ L, r.size < 4294967296) : ∀ (m j : Nat), j + m = L.length →
  Ev (fun k => Za3.l0 k t L L (L.length : Int) (j : Int)) ((L.drop j).all (fun r => rowOk L[0].size r.data.toList) && Zd3 t.data.toList)
 | 0, j, hj => by
  rw [List.drop_eq_nil_of_le (by omega), List.all_nil, Bool.true_and]
  refine Ev.shift (names_ev t) (fun k => ?_)
  simp only [Za3.l0]
  rw [if_neg (by omega)]
 | m + 1, j, hj => by
  have hlt : j < L.length := by omega
  have ih := Zla t L hL h0 hs m (j + 1) (by omega)
  obtain ⟨tr, ht1, ht2⟩ := Zk3 L[j] ⟨#[35, 46, 111, 97, 98, 99, 100, 101, 102]⟩ (hs _ (List.getElem_mem _)) (by decide) (by decide)
  have hsz : L[j].size = L[j].data.toList.length := Lib.size_eq _
  have e2 : (tr.toList = []) ↔ L[j].data.toList.all okC = true := by
   rw [ht2]
   have : ∀ l : List UInt8, l.all (fun c => ([35, 46, 111, 97, 98, 99, 100, 101, 102] : List UInt8).contains c) = l.all okC := by
    intro l; congr 1; funext c; exact okC_cut c
   rw [← this]
  rw [Zcq L j hlt, List.all_cons, Bool.and_assoc]
  refine Ev.shift (g := fun k => if L[j].size = L[0].size then (if tr.toList = [] then Za3.l0 k t L L (L.length : Int) ((j + 1 : Nat) : Int) else some false) else some false) ?_ (fun k => ?_)
  ·by_cases q1 : L[j].size = L[0].size
   ·by_cases q2 : tr.toList = []
    ·have e : rowOk L[0].size L[j].data.toList = true := by
      unfold rowOk; rw [← hsz, decide_eq_true q1, e2.1 q2]; rfl
     simp only [if_pos q1, if_pos q2, e, Bool.true_and]
     exact ih
    ·have e : rowOk L[0].size L[j].data.toList = false := by
      unfold rowOk
      cases q3 : L[j].data.toList.all okC
      ·simp
      ·exact absurd (e2.2 q3) q2
     simp only [if_pos q1, if_neg q2, e, Bool.false_and]
     exact Ev.const rfl
   ·have e : rowOk L[0].size L[j].data.toList = false := by
     unfold rowOk; rw [← hsz, decide_eq_false q1]; rfl
    simp only [if_neg q1, e, Bool.false_and]
    exact Ev.const rfl
  ·simp only [Za3.l0]
   rw [if_pos (by omega), if_pos (by omega), if_pos (by omega), if_pos (by omega), Zj3 L j hlt, show (0 : Int) = ((0 : Nat) : Int) from rfl, Zj3 L 0 h0, ht1, Option.bind_some, Zc2 j (by omega)]
   by_cases q1 : L[j].size = L[0].size
   ·rw [if_pos (by omega), if_pos q1]
   ·rw [if_neg (by omega), if_neg q1]
theorem Zge : ∀ (l : List UInt8), ∀ r ∈ Zbj l, r.length ≤ l.length
 | [], r, h => by simp [Zbj] at h; simp [h]
 | c :: cs, r, h => by
  have ih := Zge cs
  rw [Zbj] at h
  split at h
  ·rcases List.mem_cons.1 h with q | q
   ·simp [q]
   ·have := ih r q; simp only [List.length_cons]; omega
  ·have hne := Zej cs
   revert h ih hne
   cases Zbj cs with
   | nil => intro _ _ q; exact absurd rfl q
   | cons a tl =>
    intro ih h _
    rcases List.mem_cons.1 h with q | q
    ·have := ih a List.mem_cons_self; rw [q]; simp only [List.length_cons]; omega
    ·have := ih r (List.mem_cons_of_mem _ q); simp only [List.length_cons]; omega
theorem Zj9 (L : List (List UInt8)) (h : 0 < L.length) : (L[0]'h).length = (L.headD []).length := by
 cases L with
 | nil => simp at h
 | cons r rs => rfl
theorem Zi9 (t : ByteArray) (ht : t.size < 4294967290) : Ev (fun k => Za3.f k t) (okT t.data.toList) := by
 have hsz : t.size = t.data.toList.length := Lib.size_eq t
 have hcl : t.data.toList.count 47 ≤ t.data.toList.length := List.count_le_length
 have hlen : ((Zbj t.data.toList).map baOf).length = Zce t.data.toList := by rw [List.length_map]; rfl
 have hH : Zce t.data.toList = t.data.toList.count 47 + 1 := Zf4 _
 have h0 : 0 < ((Zbj t.data.toList).map baOf).length := by omega
 have hW : ((Zbj t.data.toList).map baOf)[0].size = Zcs t.data.toList := by
  unfold Zcs
  rw [List.getElem_map, Lib.size_eq, Zfy]
  exact Zj9 _ _
 have main := Zla t ((Zbj t.data.toList).map baOf) (by omega) h0 (fun r hr => by
  obtain ⟨x, hx, rfl⟩ := List.mem_map.1 hr
  have := Zge _ x hx
  rw [Lib.size_eq, Zfy]; omega) _ 0 (Nat.zero_add _)
 refine Ev.bind (g := fun k t101 => if 0 < (t101.length : Int) then ((Zcy.f ((rdOf ByteArray.empty t101 0).size : Int) (t101.length : Int)).bind fun t105 => (if t105 = true then (Za3.l0 k t t101 t101 (t101.length : Int) 0) else (some false))) else none) (Zjy t ht) ?_
 have hr0 : rdOf ByteArray.empty ((Zbj t.data.toList).map baOf) 0 = ((Zbj t.data.toList).map baOf)[0] := Zj3 _ 0 h0
 refine Ev.congr (g := fun k => if Zea (Zcs t.data.toList) (Zce t.data.toList) = true then Za3.l0 k t ((Zbj t.data.toList).map baOf) ((Zbj t.data.toList).map baOf) ((((Zbj t.data.toList).map baOf).length : Nat) : Int) 0 else some false) ?_ (fun k => ?_)
 ·unfold okT
  cases Zea (Zcs t.data.toList) (Zce t.data.toList)
  ·exact Ev.const rfl
  ·refine Ev.congr (g := fun k => Za3.l0 k t ((Zbj t.data.toList).map baOf) ((Zbj t.data.toList).map baOf) ((((Zbj t.data.toList).map baOf).length : Nat) : Int) ((0 : Nat) : Int)) ?_ (fun k => rfl)
   rw [hW, List.drop_zero, List.all_map] at main
   simpa [Function.comp_def, Zfy] using main
 ·rw [if_pos (by omega), hr0, hW, hlen, Zlr, Option.bind_some]
theorem Zjf (t : ByteArray) (ht : t.size < 4294967290) : Ev (fun k => Zcp.f k t) ((Zcs t.data.toList : Nat), (Zce t.data.toList : Nat), Zbv t.data.toList) := by
 have hsz : t.size = t.data.toList.length := Lib.size_eq t
 have hcl : t.data.toList.count 47 ≤ t.data.toList.length := List.count_le_length
 have hlen : ((Zbj t.data.toList).map baOf).length = Zce t.data.toList := by rw [List.length_map]; rfl
 have hH : Zce t.data.toList = t.data.toList.count 47 + 1 := Zf4 _
 have h0 : 0 < ((Zbj t.data.toList).map baOf).length := by omega
 have hW : ((Zbj t.data.toList).map baOf)[0].size = Zcs t.data.toList := by
  unfold Zcs
  rw [List.getElem_map, Lib.size_eq, Zfy]
  exact Zj9 _ _
 have hr0 : rdOf ByteArray.empty ((Zbj t.data.toList).map baOf) 0 = ((Zbj t.data.toList).map baOf)[0] := Zj3 _ 0 h0
 have flat : ∀ l : List UInt8, (Zbj l).flatten.length ≤ l.length := by
  intro l
  induction l with
  | nil => simp [Zbj]
  | cons c cs ih =>
   rw [Zbj]
   split
   ·simp only [List.flatten_cons, List.nil_append, List.length_cons]; omega
   ·revert ih
    cases Zbj cs with
    | nil => intro _; simp [consH]
    | cons r rs => intro ih; simp only [consH, List.flatten_cons, List.length_append, List.length_cons] at ih ⊢; omega
 have jn : ∀ L : List (List UInt8), Lib.join L [] = L.flatten := by
  intro L
  cases L with
  | nil => rfl
  | cons r rs => rw [Lib.join_cons]; simp [Lib.joinTail]
 have hj : strings_Join.f ((Zbj t.data.toList).map baOf) ⟨#[]⟩ = some (baOf (Zbj t.data.toList).flatten) := by
  unfold strings_Join.f
  have e : ((Zbj t.data.toList).map baOf).map (fun s => s.data.toList) = Zbj t.data.toList := by
   rw [List.map_map]; exact List.map_id' _
  have := flat t.data.toList
  rw [e, show (⟨#[]⟩ : ByteArray).data.toList = [] from rfl, jn, if_pos ⟨by omega, by omega⟩]
  rfl
 refine Ev.bind (g := fun k rows => if 0 < rows.length then (strings_Join.f rows (⟨#[]⟩ : ByteArray)).bind fun s => some (((rdOf ByteArray.empty rows 0).size : Int), (rows.length : Int), bytesOf s) else none) (Zjy t ht) (Ev.const ?_)
 rw [if_pos h0, hj, Option.bind_some, hr0, hW, hlen]
 rfl
end Go.Proofs.YtjohcjkidoalkaaGreatDoor.Plain
