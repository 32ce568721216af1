/- Contracts of functions and plain lemmas, for the last text. -/
import Derived.Test.YtjohcjkidoalkaaGreatDoorAsI
import Derived.Test.YtjohcjkidoalkaaGreatDoorRows
import Derived.WalkKit
import Derived.ProofKit
import Derived.OpenShut
import Derived.ShutString
import Derived.ChangeOld
import Derived.Below
import Derived.SizedLaws
import Derived.LaidMore
import Derived.Stop.Joined
import Derived.Lay
import Derived.LaidOnce
import Derived.SevenTiedAt
import Derived.Test.YtjohcjkidoalkaaGreatDoorCards
import Derived.Test.YtjohcjkidoalkaaGreatDoorTie
import Derived.Lib.Strings
set_option linter.unusedVariables false
set_option linter.unusedSimpArgs false
namespace Go.Proofs.YtjohcjkidoalkaaGreatDoor.PA
open Go.RowKit Go.PW.PrintWords Go.PW.PrintLast Go.PW.PrintMore
attribute [local go_sem] Zbo Zbm Zbz Zby Zbd Zbc Zbn Zbl
mutual
def laws_FnExactAllStill.j0 : Nat → ByteArray → ByteArray → List ByteArray → Bool → List ByteArray → Bool → Option (Bool)
 | 0, _, _, _, _, _, _ => none
 | k + 1, x0, x1, x5, x6, x7, x39 => if x39 = true then (some false) else ((Zbb.f k x7 1).bind fun bt110 => ((Za2.f k bt110.2 1).bind fun t112 => (if t112 < 0 then (some false) else (if t112 = bt110.1 then ((Zb1.f k x0 x1).bind fun bt113 => ((Za3.f k bt113.1 x5).bind fun t117 => (if t117 = true then (laws_FnExactAllStill.j1 k bt110.2 bt110.1 (bt113.2 != x6)) else (laws_FnExactAllStill.j1 k bt110.2 bt110.1 true)))) else (some false)))))
def laws_FnExactAllStill.j1 : Nat → List ByteArray → Int → Bool → Option (Bool)
 | 0, _, _, _ => none
 | k + 1, x7, x9, x65 => if x65 = true then (some false) else ((Za2.f k x7 1).bind fun t118 => (if t118 < 0 then (some false) else (if t118 = x9 then (some true) else (some false))))
end
def laws_FnExactAllStill.f (k : Nat) (a0 : ByteArray) (a1 : ByteArray) : Option (Bool) := if (a0.size : Int) > 1048576 then (some true) else (if (a1.size : Int) > 1048576 then (some true) else ((Zaw.f k a0 a1).bind fun bt101 => ((Zb1.f k a0 a1).bind fun bt105 => ((Za3.f k bt105.1 bt101.1).bind fun t109 => (if t109 = true then (laws_FnExactAllStill.j0 k a0 a1 bt101.1 bt101.2 bt105.1 (bt105.2 != bt101.2)) else (laws_FnExactAllStill.j0 k a0 a1 bt101.1 bt101.2 bt105.1 true))))))
set_option maxHeartbeats 8000000 in
set_option maxRecDepth 100000 in
theorem laws_FnExactAllStill.calls (k : Nat) (a0 : ByteArray) (a1 : ByteArray) (r : Bool) (w : World) (h : laws_FnExactAllStill.f k a0 a1 = some r) :
  Calls Tryz.prog 8 #[.string a0, .string a1] w fun e w' => e = .returned (.bool r) ∧ Below w.heap.size w w' := by
 have HB := Zad.mk (Below.refl w.heap.size w)
 have H : (if (a0.size : Int) > 1048576 then (some true) else (if (a1.size : Int) > 1048576 then (some true) else ((Zaw.f k a0 a1).bind fun bt101 => ((Zb1.f k a0 a1).bind fun bt105 => ((Za3.f k bt105.1 bt101.1).bind fun t109 => (if t109 = true then (laws_FnExactAllStill.j0 k a0 a1 bt101.1 bt101.2 bt105.1 (bt105.2 != bt101.2)) else (laws_FnExactAllStill.j0 k a0 a1 bt101.1 bt101.2 bt105.1 true))))))) = some r := h
 clear h
 by_cases c3 : (a0.size : Int) > 1048576
 ·rw [if_pos c3] at H
  have c3b0 : decide (1048576 < (a0.size : Int)) = true := decide_eq_true c3
  have c3b1 : decide (1048576 < a0.size) = true := decide_eq_true (by omega)
  clear c3
  obtain rfl := Option.some.inj H
  go_enter Tryz.func8, Tryz.ntmps8
  go_wp2
  go_ret
  exact ⟨by first | rfl | (simp [Zao, Zan] <;> rfl) | (simp [*, Zao, Zan] <;> rfl), by repeat (first | (with_reducible first | exact HB.out | apply Zac | apply Zaa | apply Zab) | exact HB.out)⟩
 ·rw [if_neg c3] at H
  have c3b0 : decide (1048576 < (a0.size : Int)) = false := decide_eq_false c3
  have c3b1 : decide (1048576 < a0.size) = false := decide_eq_false (by omega)
  clear c3
  by_cases c4 : (a1.size : Int) > 1048576
  ·rw [if_pos c4] at H
   have c4b0 : decide (1048576 < (a1.size : Int)) = true := decide_eq_true c4
   have c4b1 : decide (1048576 < a1.size) = true := decide_eq_true (by omega)
   clear c4
   obtain rfl := Option.some.inj H
   go_enter Tryz.func8, Tryz.ntmps8
   go_wp2
   go_ret
   exact ⟨by first | rfl | (simp [Zao, Zan] <;> rfl) | (simp [*, Zao, Zan] <;> rfl), by repeat (first | (with_reducible first | exact HB.out | apply Zac | apply Zaa | apply Zab) | exact HB.out)⟩
  ·rw [if_neg c4] at H
   have c4b0 : decide (1048576 < (a1.size : Int)) = false := decide_eq_false c4
   have c4b1 : decide (1048576 < a1.size) = false := decide_eq_false (by omega)
   clear c4
   replace H := Option.bind_eq_some_iff.mp H
   obtain ⟨⟨t101, t102⟩, A50, H⟩ := H
   replace H : ((Zb1.f k a0 a1).bind fun bt105 => ((Za3.f k bt105.1 t101).bind fun t109 => (if t109 = true then (laws_FnExactAllStill.j0 k a0 a1 t101 t102 bt105.1 (bt105.2 != t102)) else (laws_FnExactAllStill.j0 k a0 a1 t101 t102 bt105.1 true)))) = some r := H
   have A5 := Zad.mk A50
   clear A50
   replace H := Option.bind_eq_some_iff.mp H
   obtain ⟨⟨t105, t106⟩, A60, H⟩ := H
   replace H : ((Za3.f k t105 t101).bind fun t109 => (if t109 = true then (laws_FnExactAllStill.j0 k a0 a1 t101 t102 t105 (t106 != t102)) else (laws_FnExactAllStill.j0 k a0 a1 t101 t102 t105 true))) = some r := H
   have A6 := Zad.mk A60
   clear A60
   have HC7 := Zad.mk H
   clear H
   go_enter Tryz.func8, Tryz.ntmps8
   go_upto_region 7 with (first | ((with_reducible refine Zau (f := 27) rfl ?_); refine Zbr (some 22) rfl rfl Tryz.func27 (by kernel_rfl) rfl #[.string a0, .string a1] rfl (by (try simp only [List.map_toArray, List.map_cons, List.map_nil]); first | done | rfl | (simp only [List.length_drop, List.length_take]; rfl)) ?_; (with_reducible refine (Zaw.calls k a0 a1 t101 t102 _ A5.out).mono ?_); rintro e w8 ⟨v103, rfl, ho0, hb⟩; refine ⟨_, rfl, ?_⟩; have n0_ := Zad.mk (Kd.R_lower ho0 (Zak (by with_reducible repeat first | exact HB.out | apply Zac | apply Zaa | apply Zab))); have n1_ := Zad.mk (Zal (by with_reducible repeat first | exact HB.out | apply Zac | apply Zaa | apply Zab) hb); clear HB; have HO104 := n0_; have HB := n1_) | ((with_reducible refine Zau (f := 28) rfl ?_); refine Zbr (some 28) rfl rfl Tryz.func28 (by kernel_rfl) rfl #[.string a0, .string a1] rfl (by (try simp only [List.map_toArray, List.map_cons, List.map_nil]); first | done | rfl | (simp only [List.length_drop, List.length_take]; rfl)) ?_; (with_reducible refine (Zb1.calls k a0 a1 t105 t106 _ A6.out).mono ?_); rintro e w9 ⟨v107, rfl, ho0, hb⟩; refine ⟨_, rfl, ?_⟩; have n0_ := Zad.mk (Kd.R_elder' (by (with_reducible repeat (first | apply Kd.R_alloc | apply Kd.R_drewN | apply Kd.R_drew)); exact HO104.out) (Kd.R_base ho0) hb); have n1_ := Zad.mk (Kd.R_lower (Kd.R_new' ho0 (Kd.R_lt (by (with_reducible repeat (first | apply Kd.R_alloc | apply Kd.R_drewN | apply Kd.R_drew)); exact HO104.out))) (Zak (by with_reducible repeat first | exact HB.out | apply Zac | apply Zaa | apply Zab))); have n2_ := Zad.mk (Zal (by with_reducible repeat first | exact HB.out | apply Zac | apply Zaa | apply Zab) hb); clear HO104; clear HB; have HO104 := n0_; have HO108 := n1_; have HB := n2_))
   (try simp only [Act.put, List.setIfInBounds_toArray, List.set_cons_zero, List.set_cons_succ])
   go_cut [39] (fun v39 wc => ∃ (kq : Nat) (x39_6 : Bool), v39 = .bool x39_6 ∧ Zad (laws_FnExactAllStill.j0 kq a0 a1 t101 t102 t105 x39_6 = some r) ∧ Zad (kq ≤ k) ∧ Zad (Kd.R Kd.string 9 wc w.heap.size (fun k_ => some k_ ≠ (v107 : Value).ownBlock) v103 t101) ∧ Zad (Kd.R Kd.string 9 wc w.heap.size (fun k_ => some k_ ≠ (v103 : Value).ownBlock) v107 t105) ∧ Zad (Below w.heap.size w wc))
   case first =>
    have H := HC7.out
    clear HC7
    replace H := Option.bind_eq_some_iff.mp H
    obtain ⟨t109, A100, H⟩ := H
    replace H : (if t109 = true then (laws_FnExactAllStill.j0 k a0 a1 t101 t102 t105 (t106 != t102)) else (laws_FnExactAllStill.j0 k a0 a1 t101 t102 t105 true)) = some r := H
    have A10 := Zad.mk A100
    clear A100
    by_cases c11 : t109 = true
    ·subst c11
     have H1 : (laws_FnExactAllStill.j0 k a0 a1 t101 t102 t105 (t106 != t102)) = some r := by rw [if_pos rfl] at H; exact H
     clear H
     have H := H1
     clear H1
     have H' := Zad.mk H
     clear H
     obtain ⟨Ao12, co12, eo12⟩ := Kd.R_slice HO108.out
     subst eo12
     obtain ⟨Ao13, co13, eo13⟩ := Kd.R_slice HO104.out
     subst eo13
     go_wp2_with (first | ((with_reducible refine Zau (f := 12) rfl ?_); refine Zbr (some 33) rfl rfl Tryz.func12 (by kernel_rfl) rfl #[.slice Ao12 t105.length co12, .slice Ao13 t101.length co13] rfl (by (try simp only [List.map_toArray, List.map_cons, List.map_nil]); first | done | rfl | (simp only [List.length_drop, List.length_take]; rfl)) ?_; (with_reducible refine (Za3.calls k _ _ t105 _ _ t101 true _ ?side1 ?side2 ?side3 ?side4 A10.out).mono ?_); (case side1 => repeat (first | exact (Kd.R_reads' HO108.out).2.2 | (with_reducible refine Kd.C_alloc ?_ _) | (with_reducible refine Kd.C_drewN ?_ _) | (with_reducible refine Kd.C_drew ?_))); (case side2 => exact (Kd.R_reads' HO108.out).2.1); (case side3 => repeat (first | exact (Kd.R_reads' HO104.out).2.2 | (with_reducible refine Kd.C_alloc ?_ _) | (with_reducible refine Kd.C_drewN ?_ _) | (with_reducible refine Kd.C_drew ?_))); (case side4 => exact (Kd.R_reads' HO104.out).2.1); rintro e w' ⟨rfl, ⟨nd, rfl⟩⟩; refine ⟨_, rfl, ?_⟩))
     go_meet
     case rel => exact ⟨_, ((t106 != t102)), (by first | rfl | (simp; done) | (simp [*]; done)), H', ⟨by first | omega | exact Nat.le_refl _⟩, ⟨by (with_reducible repeat (first | apply Kd.R_alloc | apply Kd.R_drewN | apply Kd.R_drew)); exact Kd.R_mono HO104.out (fun _ hk => hk.2)⟩, ⟨by (with_reducible repeat (first | apply Kd.R_alloc | apply Kd.R_drewN | apply Kd.R_drew)); exact Kd.R_mono HO108.out (fun _ hk => hk.2)⟩, ⟨by with_reducible repeat first | exact HB.out | apply Zac | apply Zaa | apply Zab⟩⟩
    ·replace c11 := Bool.eq_false_iff.mpr c11
     subst c11
     have H1 : (laws_FnExactAllStill.j0 k a0 a1 t101 t102 t105 true) = some r := by rw [if_neg (show ¬ (false = true) by decide)] at H; exact H
     clear H
     have H := H1
     clear H1
     have H' := Zad.mk H
     clear H
     obtain ⟨Ao14, co14, eo14⟩ := Kd.R_slice HO108.out
     subst eo14
     obtain ⟨Ao15, co15, eo15⟩ := Kd.R_slice HO104.out
     subst eo15
     go_wp2_with (first | ((with_reducible refine Zau (f := 12) rfl ?_); refine Zbr (some 33) rfl rfl Tryz.func12 (by kernel_rfl) rfl #[.slice Ao14 t105.length co14, .slice Ao15 t101.length co15] rfl (by (try simp only [List.map_toArray, List.map_cons, List.map_nil]); first | done | rfl | (simp only [List.length_drop, List.length_take]; rfl)) ?_; (with_reducible refine (Za3.calls k _ _ t105 _ _ t101 false _ ?side1 ?side2 ?side3 ?side4 A10.out).mono ?_); (case side1 => repeat (first | exact (Kd.R_reads' HO108.out).2.2 | (with_reducible refine Kd.C_alloc ?_ _) | (with_reducible refine Kd.C_drewN ?_ _) | (with_reducible refine Kd.C_drew ?_))); (case side2 => exact (Kd.R_reads' HO108.out).2.1); (case side3 => repeat (first | exact (Kd.R_reads' HO104.out).2.2 | (with_reducible refine Kd.C_alloc ?_ _) | (with_reducible refine Kd.C_drewN ?_ _) | (with_reducible refine Kd.C_drew ?_))); (case side4 => exact (Kd.R_reads' HO104.out).2.1); rintro e w' ⟨rfl, ⟨nd, rfl⟩⟩; refine ⟨_, rfl, ?_⟩))
     go_meet
     case rel => exact ⟨_, (true), (by first | rfl | (simp; done) | (simp [*]; done)), H', ⟨by first | omega | exact Nat.le_refl _⟩, ⟨by (with_reducible repeat (first | apply Kd.R_alloc | apply Kd.R_drewN | apply Kd.R_drew)); exact Kd.R_mono HO104.out (fun _ hk => hk.2)⟩, ⟨by (with_reducible repeat (first | apply Kd.R_alloc | apply Kd.R_drewN | apply Kd.R_drew)); exact Kd.R_mono HO108.out (fun _ hk => hk.2)⟩, ⟨by with_reducible repeat first | exact HB.out | apply Zac | apply Zaa | apply Zab⟩⟩
   case rest =>
    clear HC7
    obtain ⟨kq, x39_6, rfl, HA, HJ6, HO_5, HO_7, HB⟩ := hcut
    cases kq with
    | zero => exact absurd HA.out (by simp [laws_FnExactAllStill.j0])
    | succ kj6 =>
     have H := HA.out
     clear HA
     simp only [laws_FnExactAllStill.j0] at H
     by_cases c16 : x39_6 = true
     ·subst c16
      have H1 : (some false) = some r := by rw [if_pos rfl] at H; exact H
      clear H
      have H := H1
      clear H1
      obtain rfl := Option.some.inj H
      go_wp2
      go_ret
      exact ⟨by first | rfl | (simp [Zao, Zan] <;> rfl) | (simp [*, Zao, Zan] <;> rfl), by repeat (first | (with_reducible first | exact HB.out | apply Zac | apply Zaa | apply Zab) | exact HB.out)⟩
     ·replace c16 := Bool.eq_false_iff.mpr c16
      subst c16
      have H1 : ((Zbb.f kj6 t105 1).bind fun bt110 => ((Za2.f kj6 bt110.2 1).bind fun t112 => (if t112 < 0 then (some false) else (if t112 = bt110.1 then ((Zb1.f kj6 a0 a1).bind fun bt113 => ((Za3.f kj6 bt113.1 t101).bind fun t117 => (if t117 = true then (laws_FnExactAllStill.j1 kj6 bt110.2 bt110.1 (bt113.2 != t102)) else (laws_FnExactAllStill.j1 kj6 bt110.2 bt110.1 true)))) else (some false))))) = some r := by rw [if_neg (show ¬ (false = true) by decide)] at H; exact H
      clear H
      have H := H1
      clear H1
      replace H := Option.bind_eq_some_iff.mp H
      obtain ⟨⟨t110, t111⟩, A170, H⟩ := H
      replace H : ((Za2.f kj6 t111 1).bind fun t112 => (if t112 < 0 then (some false) else (if t112 = t110 then ((Zb1.f kj6 a0 a1).bind fun bt113 => ((Za3.f kj6 bt113.1 t101).bind fun t117 => (if t117 = true then (laws_FnExactAllStill.j1 kj6 t111 t110 (bt113.2 != t102)) else (laws_FnExactAllStill.j1 kj6 t111 t110 true)))) else (some false)))) = some r := H
      have A17 := Zad.mk A170
      clear A170
      replace H := Option.bind_eq_some_iff.mp H
      obtain ⟨t112, A180, H⟩ := H
      replace H : (if t112 < 0 then (some false) else (if t112 = t110 then ((Zb1.f kj6 a0 a1).bind fun bt113 => ((Za3.f kj6 bt113.1 t101).bind fun t117 => (if t117 = true then (laws_FnExactAllStill.j1 kj6 t111 t110 (bt113.2 != t102)) else (laws_FnExactAllStill.j1 kj6 t111 t110 true)))) else (some false))) = some r := H
      have A18 := Zad.mk A180
      clear A180
      by_cases c19 : t112 < 0
      ·rw [if_pos c19] at H
       have c19b0 : decide (t112 < 0) = true := decide_eq_true c19
       clear c19
       obtain rfl := Option.some.inj H
       obtain ⟨Ao20, co20, eo20⟩ := Kd.R_slice HO_7.out
       subst eo20
       go_wp2_with (first | ((with_reducible refine Zau (f := 13) rfl ?_); refine Zbr (some 42) rfl rfl Tryz.func13 (by kernel_rfl) rfl #[.slice Ao20 t105.length co20, .int .i64 1] rfl (by (try simp only [List.map_toArray, List.map_cons, List.map_nil]); first | done | rfl | (simp only [List.length_drop, List.length_take]; rfl)) ?_; (with_reducible refine (Zbb.calls kj6 (fun k_ => some k_ = (.slice Ao20 t105.length co20 : Value).ownBlock) (.slice Ao20 t105.length co20) t105 1 t110 t111 w _ ?side1 ?side2 A17.out).mono ?_); (case side1 => repeat (first | (with_reducible first | exact HB.out | apply Zac | apply Zaa | apply Zab) | exact HB.out)); (case side2 => exact Kd.R_tight rfl HO_7.out); rintro e w21 ⟨rfl, hy0, hb, hkp⟩; refine ⟨_, rfl, ?_⟩; have n0_ := Zad.mk (Kd.R_mono (ok' := fun k_ => some k_ ≠ (.slice Ao20 t105.length co20 : Value).ownBlock) (Kd.R_keptB (HO_5.out) hkp (fun k_ hk_ hs_ => (hk_) hs_)) (fun k_ hk_ => hk_.1)); have n1_ := Zad.mk (Kd.R_reok rfl hy0 (fun k_ e_ => HO_7.out.1 k_ e_)); have n2_ := Zad.mk (hb); clear HO_5; clear HO_7; clear HB; have HO_5 := n0_; have HO_7 := n1_; have HB := n2_) | ((with_reducible refine Zau (f := 14) rfl ?_); refine Zbr (some 45) rfl rfl Tryz.func14 (by kernel_rfl) rfl #[.slice Ao20 t111.length co20, .int .i64 1] rfl (by (try simp only [List.map_toArray, List.map_cons, List.map_nil]); first | done | (rw [show t111.length = t105.length from (Kd.R_reads' HO_7.out).1.symm] <;> rfl) | rfl | (simp only [List.length_drop, List.length_take]; rfl)) ?_; (with_reducible refine (Za2.calls kj6 _ _ t111 1 t112 _ ?side1 ?side2 A18.out).mono ?_); (case side1 => repeat (first | exact (Kd.R_reads' HO_7.out).2.2 | (with_reducible refine Kd.C_alloc ?_ _) | (with_reducible refine Kd.C_drewN ?_ _) | (with_reducible refine Kd.C_drew ?_))); (case side2 => rw [show t111.length = t105.length from (Kd.R_reads' HO_7.out).1.symm]; exact (Kd.R_reads' HO_7.out).2.1); rintro e w22 ⟨rfl, hb⟩; refine ⟨_, rfl, ?_⟩; have n0_ := Zad.mk (Kd.R_below (by (with_reducible repeat (first | apply Kd.R_alloc | apply Kd.R_drewN | apply Kd.R_drew)); exact HO_5.out) hb); have n1_ := Zad.mk (Kd.R_below (by (with_reducible repeat (first | apply Kd.R_alloc | apply Kd.R_drewN | apply Kd.R_drew)); exact HO_7.out) hb); have n2_ := Zad.mk (Zal (by with_reducible repeat first | exact HB.out | apply Zac | apply Zaa | apply Zab) hb); clear HO_5; clear HO_7; clear HB; have HO_5 := n0_; have HO_7 := n1_; have HB := n2_))
       go_ret
       exact ⟨by first | rfl | (simp [Zao, Zan] <;> rfl) | (simp [*, Zao, Zan] <;> rfl), by repeat (first | (with_reducible first | exact HB.out | apply Zac | apply Zaa | apply Zab) | exact HB.out)⟩
      ·rw [if_neg c19] at H
       have c19b0 : decide (t112 < 0) = false := decide_eq_false c19
       clear c19
       by_cases c23 : t112 = t110
       ·rw [if_pos c23] at H
        have c23b0 : (t112 == t110) = true := beq_iff_eq.mpr c23
        have c23b1 : (t112 != t110) = false := bne_eq_false_iff_eq.mpr c23
        clear c23
        replace H := Option.bind_eq_some_iff.mp H
        obtain ⟨⟨t113, t114⟩, A240, H⟩ := H
        replace H : ((Za3.f kj6 t113 t101).bind fun t117 => (if t117 = true then (laws_FnExactAllStill.j1 kj6 t111 t110 (t114 != t102)) else (laws_FnExactAllStill.j1 kj6 t111 t110 true))) = some r := H
        have A24 := Zad.mk A240
        clear A240
        have HC25 := Zad.mk H
        clear H
        obtain ⟨Ao26, co26, eo26⟩ := Kd.R_slice HO_7.out
        subst eo26
        go_upto_region 18 with (first | ((with_reducible refine Zau (f := 13) rfl ?_); refine Zbr (some 42) rfl rfl Tryz.func13 (by kernel_rfl) rfl #[.slice Ao26 t105.length co26, .int .i64 1] rfl (by (try simp only [List.map_toArray, List.map_cons, List.map_nil]); first | done | rfl | (simp only [List.length_drop, List.length_take]; rfl)) ?_; (with_reducible refine (Zbb.calls kj6 (fun k_ => some k_ = (.slice Ao26 t105.length co26 : Value).ownBlock) (.slice Ao26 t105.length co26) t105 1 t110 t111 w _ ?side1 ?side2 A17.out).mono ?_); (case side1 => repeat (first | (with_reducible first | exact HB.out | apply Zac | apply Zaa | apply Zab) | exact HB.out)); (case side2 => exact Kd.R_tight rfl HO_7.out); rintro e w27 ⟨rfl, hy0, hb, hkp⟩; refine ⟨_, rfl, ?_⟩; have n0_ := Zad.mk (Kd.R_mono (ok' := fun k_ => some k_ ≠ (.slice Ao26 t105.length co26 : Value).ownBlock) (Kd.R_keptB (HO_5.out) hkp (fun k_ hk_ hs_ => (hk_) hs_)) (fun k_ hk_ => hk_.1)); have n1_ := Zad.mk (Kd.R_reok rfl hy0 (fun k_ e_ => HO_7.out.1 k_ e_)); have n2_ := Zad.mk (hb); clear HO_5; clear HO_7; clear HB; have HO_5 := n0_; have HO_7 := n1_; have HB := n2_) | ((with_reducible refine Zau (f := 14) rfl ?_); refine Zbr (some 45) rfl rfl Tryz.func14 (by kernel_rfl) rfl #[.slice Ao26 t111.length co26, .int .i64 1] rfl (by (try simp only [List.map_toArray, List.map_cons, List.map_nil]); first | done | (rw [show t111.length = t105.length from (Kd.R_reads' HO_7.out).1.symm] <;> rfl) | rfl | (simp only [List.length_drop, List.length_take]; rfl)) ?_; (with_reducible refine (Za2.calls kj6 _ _ t111 1 t112 _ ?side1 ?side2 A18.out).mono ?_); (case side1 => repeat (first | exact (Kd.R_reads' HO_7.out).2.2 | (with_reducible refine Kd.C_alloc ?_ _) | (with_reducible refine Kd.C_drewN ?_ _) | (with_reducible refine Kd.C_drew ?_))); (case side2 => rw [show t111.length = t105.length from (Kd.R_reads' HO_7.out).1.symm]; exact (Kd.R_reads' HO_7.out).2.1); rintro e w28 ⟨rfl, hb⟩; refine ⟨_, rfl, ?_⟩; have n0_ := Zad.mk (Kd.R_below (by (with_reducible repeat (first | apply Kd.R_alloc | apply Kd.R_drewN | apply Kd.R_drew)); exact HO_5.out) hb); have n1_ := Zad.mk (Kd.R_below (by (with_reducible repeat (first | apply Kd.R_alloc | apply Kd.R_drewN | apply Kd.R_drew)); exact HO_7.out) hb); have n2_ := Zad.mk (Zal (by with_reducible repeat first | exact HB.out | apply Zac | apply Zaa | apply Zab) hb); clear HO_5; clear HO_7; clear HB; have HO_5 := n0_; have HO_7 := n1_; have HB := n2_) | ((with_reducible refine Zau (f := 28) rfl ?_); refine Zbr (some 54) rfl rfl Tryz.func28 (by kernel_rfl) rfl #[.string a0, .string a1] rfl (by (try simp only [List.map_toArray, List.map_cons, List.map_nil]); first | done | rfl | (simp only [List.length_drop, List.length_take]; rfl)) ?_; (with_reducible refine (Zb1.calls kj6 a0 a1 t113 t114 _ A24.out).mono ?_); rintro e w29 ⟨v115, rfl, ho0, hb⟩; refine ⟨_, rfl, ?_⟩; have n0_ := Zad.mk (Kd.R_elder' (by (with_reducible repeat (first | apply Kd.R_alloc | apply Kd.R_drewN | apply Kd.R_drew)); exact HO_5.out) (Kd.R_base ho0) hb); have n1_ := Zad.mk (Kd.R_elder' (by (with_reducible repeat (first | apply Kd.R_alloc | apply Kd.R_drewN | apply Kd.R_drew)); exact HO_7.out) (Kd.R_base ho0) hb); have n2_ := Zad.mk (Kd.R_lower (Kd.R_new' (Kd.R_new' ho0 (Kd.R_lt (by (with_reducible repeat (first | apply Kd.R_alloc | apply Kd.R_drewN | apply Kd.R_drew)); exact HO_5.out))) (Kd.R_lt (by (with_reducible repeat (first | apply Kd.R_alloc | apply Kd.R_drewN | apply Kd.R_drew)); exact HO_7.out))) (Zak (by with_reducible repeat first | exact HB.out | apply Zac | apply Zaa | apply Zab))); have n3_ := Zad.mk (Zal (by with_reducible repeat first | exact HB.out | apply Zac | apply Zaa | apply Zab) hb); clear HO_5; clear HO_7; clear HB; have HO_5 := n0_; have HO_7 := n1_; have HO116 := n2_; have HB := n3_))
        (try simp only [Act.put, List.setIfInBounds_toArray, List.set_cons_zero, List.set_cons_succ])
        go_cut [65] (fun v65 wc => ∃ (kq : Nat) (x65_24 : Bool), v65 = .bool x65_24 ∧ Zad (laws_FnExactAllStill.j1 kq t111 t110 x65_24 = some r) ∧ Zad (kq ≤ kj6) ∧ Zad (Kd.R Kd.string 9 wc w.heap.size (fun _ => True) (.slice Ao26 t105.length co26) t111) ∧ Zad (Below w.heap.size w wc))
        case first =>
         have H := HC25.out
         clear HC25
         replace H := Option.bind_eq_some_iff.mp H
         obtain ⟨t117, A300, H⟩ := H
         replace H : (if t117 = true then (laws_FnExactAllStill.j1 kj6 t111 t110 (t114 != t102)) else (laws_FnExactAllStill.j1 kj6 t111 t110 true)) = some r := H
         have A30 := Zad.mk A300
         clear A300
         by_cases c31 : t117 = true
         ·subst c31
          have H1 : (laws_FnExactAllStill.j1 kj6 t111 t110 (t114 != t102)) = some r := by rw [if_pos rfl] at H; exact H
          clear H
          have H := H1
          clear H1
          have H' := Zad.mk H
          clear H
          obtain ⟨Ao32, co32, eo32⟩ := Kd.R_slice HO116.out
          subst eo32
          obtain ⟨Ao33, co33, eo33⟩ := Kd.R_slice HO_5.out
          subst eo33
          go_wp2_with (first | ((with_reducible refine Zau (f := 12) rfl ?_); refine Zbr (some 59) rfl rfl Tryz.func12 (by kernel_rfl) rfl #[.slice Ao32 t113.length co32, .slice Ao33 t101.length co33] rfl (by (try simp only [List.map_toArray, List.map_cons, List.map_nil]); first | done | rfl | (simp only [List.length_drop, List.length_take]; rfl)) ?_; (with_reducible refine (Za3.calls kj6 _ _ t113 _ _ t101 true _ ?side1 ?side2 ?side3 ?side4 A30.out).mono ?_); (case side1 => repeat (first | exact (Kd.R_reads' HO116.out).2.2 | (with_reducible refine Kd.C_alloc ?_ _) | (with_reducible refine Kd.C_drewN ?_ _) | (with_reducible refine Kd.C_drew ?_))); (case side2 => exact (Kd.R_reads' HO116.out).2.1); (case side3 => repeat (first | exact (Kd.R_reads' HO_5.out).2.2 | (with_reducible refine Kd.C_alloc ?_ _) | (with_reducible refine Kd.C_drewN ?_ _) | (with_reducible refine Kd.C_drew ?_))); (case side4 => exact (Kd.R_reads' HO_5.out).2.1); rintro e w' ⟨rfl, ⟨nd, rfl⟩⟩; refine ⟨_, rfl, ?_⟩))
          go_meet
          case rel => exact ⟨_, ((t114 != t102)), (by first | rfl | (simp; done) | (simp [*]; done)), H', ⟨by have := HJ6.out; first | omega | exact Nat.le_refl _⟩, ⟨by (with_reducible repeat (first | apply Kd.R_alloc | apply Kd.R_drewN | apply Kd.R_drew)); exact Kd.R_mono HO_7.out (fun _ hk => trivial)⟩, ⟨by with_reducible repeat first | exact HB.out | apply Zac | apply Zaa | apply Zab⟩⟩
         ·replace c31 := Bool.eq_false_iff.mpr c31
          subst c31
          have H1 : (laws_FnExactAllStill.j1 kj6 t111 t110 true) = some r := by rw [if_neg (show ¬ (false = true) by decide)] at H; exact H
          clear H
          have H := H1
          clear H1
          have H' := Zad.mk H
          clear H
          obtain ⟨Ao34, co34, eo34⟩ := Kd.R_slice HO116.out
          subst eo34
          obtain ⟨Ao35, co35, eo35⟩ := Kd.R_slice HO_5.out
          subst eo35
          go_wp2_with (first | ((with_reducible refine Zau (f := 12) rfl ?_); refine Zbr (some 59) rfl rfl Tryz.func12 (by kernel_rfl) rfl #[.slice Ao34 t113.length co34, .slice Ao35 t101.length co35] rfl (by (try simp only [List.map_toArray, List.map_cons, List.map_nil]); first | done | rfl | (simp only [List.length_drop, List.length_take]; rfl)) ?_; (with_reducible refine (Za3.calls kj6 _ _ t113 _ _ t101 false _ ?side1 ?side2 ?side3 ?side4 A30.out).mono ?_); (case side1 => repeat (first | exact (Kd.R_reads' HO116.out).2.2 | (with_reducible refine Kd.C_alloc ?_ _) | (with_reducible refine Kd.C_drewN ?_ _) | (with_reducible refine Kd.C_drew ?_))); (case side2 => exact (Kd.R_reads' HO116.out).2.1); (case side3 => repeat (first | exact (Kd.R_reads' HO_5.out).2.2 | (with_reducible refine Kd.C_alloc ?_ _) | (with_reducible refine Kd.C_drewN ?_ _) | (with_reducible refine Kd.C_drew ?_))); (case side4 => exact (Kd.R_reads' HO_5.out).2.1); rintro e w' ⟨rfl, ⟨nd, rfl⟩⟩; refine ⟨_, rfl, ?_⟩))
          go_meet
          case rel => exact ⟨_, (true), (by first | rfl | (simp; done) | (simp [*]; done)), H', ⟨by have := HJ6.out; first | omega | exact Nat.le_refl _⟩, ⟨by (with_reducible repeat (first | apply Kd.R_alloc | apply Kd.R_drewN | apply Kd.R_drew)); exact Kd.R_mono HO_7.out (fun _ hk => trivial)⟩, ⟨by with_reducible repeat first | exact HB.out | apply Zac | apply Zaa | apply Zab⟩⟩
        case rest =>
         clear HC25
         obtain ⟨kq, x65_24, rfl, HA, HJ24, HO_7, HB⟩ := hcut
         have hl7_24 := (Kd.R_reads' HO_7.out).1
         rw [hl7_24] at HO_7
         (try simp only [hl7_24])
         cases kq with
         | zero => exact absurd HA.out (by simp [laws_FnExactAllStill.j1])
         | succ kj24 =>
          have H := HA.out
          clear HA
          simp only [laws_FnExactAllStill.j1] at H
          by_cases c36 : x65_24 = true
          ·subst c36
           have H1 : (some false) = some r := by rw [if_pos rfl] at H; exact H
           clear H
           have H := H1
           clear H1
           obtain rfl := Option.some.inj H
           go_wp2
           go_ret
           exact ⟨by first | rfl | (simp [Zao, Zan] <;> rfl) | (simp [*, Zao, Zan] <;> rfl), by repeat (first | (with_reducible first | exact HB.out | apply Zac | apply Zaa | apply Zab) | exact HB.out)⟩
          ·replace c36 := Bool.eq_false_iff.mpr c36
           subst c36
           have H1 : ((Za2.f kj24 t111 1).bind fun t118 => (if t118 < 0 then (some false) else (if t118 = t110 then (some true) else (some false)))) = some r := by rw [if_neg (show ¬ (false = true) by decide)] at H; exact H
           clear H
           have H := H1
           clear H1
           replace H := Option.bind_eq_some_iff.mp H
           obtain ⟨t118, A370, H⟩ := H
           replace H : (if t118 < 0 then (some false) else (if t118 = t110 then (some true) else (some false))) = some r := H
           have A37 := Zad.mk A370
           clear A370
           by_cases c38 : t118 < 0
           ·rw [if_pos c38] at H
            have c38b0 : decide (t118 < 0) = true := decide_eq_true c38
            clear c38
            obtain rfl := Option.some.inj H
            go_wp2_with (first | ((with_reducible refine Zau (f := 14) rfl ?_); refine Zbr (some 68) rfl rfl Tryz.func14 (by kernel_rfl) rfl #[.slice Ao26 t111.length co26, .int .i64 1] rfl (by (try simp only [List.map_toArray, List.map_cons, List.map_nil]); first | done | rfl | (simp only [List.length_drop, List.length_take]; rfl)) ?_; (with_reducible refine (Za2.calls kj24 _ _ t111 1 t118 _ ?side1 ?side2 A37.out).mono ?_); (case side1 => repeat (first | exact (Kd.R_reads' HO_7.out).2.2 | (with_reducible refine Kd.C_alloc ?_ _) | (with_reducible refine Kd.C_drewN ?_ _) | (with_reducible refine Kd.C_drew ?_))); (case side2 => exact (Kd.R_reads' HO_7.out).2.1); rintro e w39 ⟨rfl, hb⟩; refine ⟨_, rfl, ?_⟩; have n0_ := Zad.mk (Kd.R_below (by (with_reducible repeat (first | apply Kd.R_alloc | apply Kd.R_drewN | apply Kd.R_drew)); exact HO_7.out) hb); have n1_ := Zad.mk (Zal (by with_reducible repeat first | exact HB.out | apply Zac | apply Zaa | apply Zab) hb); clear HO_7; clear HB; have HO_7 := n0_; have HB := n1_))
            go_ret
            exact ⟨by first | rfl | (simp [Zao, Zan] <;> rfl) | (simp [*, Zao, Zan] <;> rfl), by repeat (first | (with_reducible first | exact HB.out | apply Zac | apply Zaa | apply Zab) | exact HB.out)⟩
           ·rw [if_neg c38] at H
            have c38b0 : decide (t118 < 0) = false := decide_eq_false c38
            clear c38
            by_cases c40 : t118 = t110
            ·rw [if_pos c40] at H
             have c40b0 : (t118 == t110) = true := beq_iff_eq.mpr c40
             have c40b1 : (t118 != t110) = false := bne_eq_false_iff_eq.mpr c40
             clear c40
             obtain rfl := Option.some.inj H
             go_wp2_with (first | ((with_reducible refine Zau (f := 14) rfl ?_); refine Zbr (some 68) rfl rfl Tryz.func14 (by kernel_rfl) rfl #[.slice Ao26 t111.length co26, .int .i64 1] rfl (by (try simp only [List.map_toArray, List.map_cons, List.map_nil]); first | done | rfl | (simp only [List.length_drop, List.length_take]; rfl)) ?_; (with_reducible refine (Za2.calls kj24 _ _ t111 1 t118 _ ?side1 ?side2 A37.out).mono ?_); (case side1 => repeat (first | exact (Kd.R_reads' HO_7.out).2.2 | (with_reducible refine Kd.C_alloc ?_ _) | (with_reducible refine Kd.C_drewN ?_ _) | (with_reducible refine Kd.C_drew ?_))); (case side2 => exact (Kd.R_reads' HO_7.out).2.1); rintro e w41 ⟨rfl, hb⟩; refine ⟨_, rfl, ?_⟩; have n0_ := Zad.mk (Kd.R_below (by (with_reducible repeat (first | apply Kd.R_alloc | apply Kd.R_drewN | apply Kd.R_drew)); exact HO_7.out) hb); have n1_ := Zad.mk (Zal (by with_reducible repeat first | exact HB.out | apply Zac | apply Zaa | apply Zab) hb); clear HO_7; clear HB; have HO_7 := n0_; have HB := n1_))
             go_ret
             exact ⟨by first | rfl | (simp [Zao, Zan] <;> rfl) | (simp [*, Zao, Zan] <;> rfl), by repeat (first | (with_reducible first | exact HB.out | apply Zac | apply Zaa | apply Zab) | exact HB.out)⟩
            ·rw [if_neg c40] at H
             have c40b0 : (t118 == t110) = false := beq_eq_false_iff_ne.mpr c40
             have c40b1 : (t118 != t110) = true := bne_iff_ne.mpr c40
             obtain rfl := Option.some.inj H
             go_wp2_with (first | ((with_reducible refine Zau (f := 14) rfl ?_); refine Zbr (some 68) rfl rfl Tryz.func14 (by kernel_rfl) rfl #[.slice Ao26 t111.length co26, .int .i64 1] rfl (by (try simp only [List.map_toArray, List.map_cons, List.map_nil]); first | done | rfl | (simp only [List.length_drop, List.length_take]; rfl)) ?_; (with_reducible refine (Za2.calls kj24 _ _ t111 1 t118 _ ?side1 ?side2 A37.out).mono ?_); (case side1 => repeat (first | exact (Kd.R_reads' HO_7.out).2.2 | (with_reducible refine Kd.C_alloc ?_ _) | (with_reducible refine Kd.C_drewN ?_ _) | (with_reducible refine Kd.C_drew ?_))); (case side2 => exact (Kd.R_reads' HO_7.out).2.1); rintro e w42 ⟨rfl, hb⟩; refine ⟨_, rfl, ?_⟩; have n0_ := Zad.mk (Kd.R_below (by (with_reducible repeat (first | apply Kd.R_alloc | apply Kd.R_drewN | apply Kd.R_drew)); exact HO_7.out) hb); have n1_ := Zad.mk (Zal (by with_reducible repeat first | exact HB.out | apply Zac | apply Zaa | apply Zab) hb); clear HO_7; clear HB; have HO_7 := n0_; have HB := n1_))
             go_ret
             exact ⟨by first | rfl | (simp [Zao, Zan] <;> rfl) | (simp [*, Zao, Zan] <;> rfl), by repeat (first | (with_reducible first | exact HB.out | apply Zac | apply Zaa | apply Zab) | exact HB.out)⟩
       ·rw [if_neg c23] at H
        have c23b0 : (t112 == t110) = false := beq_eq_false_iff_ne.mpr c23
        have c23b1 : (t112 != t110) = true := bne_iff_ne.mpr c23
        obtain rfl := Option.some.inj H
        obtain ⟨Ao43, co43, eo43⟩ := Kd.R_slice HO_7.out
        subst eo43
        go_wp2_with (first | ((with_reducible refine Zau (f := 13) rfl ?_); refine Zbr (some 42) rfl rfl Tryz.func13 (by kernel_rfl) rfl #[.slice Ao43 t105.length co43, .int .i64 1] rfl (by (try simp only [List.map_toArray, List.map_cons, List.map_nil]); first | done | rfl | (simp only [List.length_drop, List.length_take]; rfl)) ?_; (with_reducible refine (Zbb.calls kj6 (fun k_ => some k_ = (.slice Ao43 t105.length co43 : Value).ownBlock) (.slice Ao43 t105.length co43) t105 1 t110 t111 w _ ?side1 ?side2 A17.out).mono ?_); (case side1 => repeat (first | (with_reducible first | exact HB.out | apply Zac | apply Zaa | apply Zab) | exact HB.out)); (case side2 => exact Kd.R_tight rfl HO_7.out); rintro e w44 ⟨rfl, hy0, hb, hkp⟩; refine ⟨_, rfl, ?_⟩; have n0_ := Zad.mk (Kd.R_mono (ok' := fun k_ => some k_ ≠ (.slice Ao43 t105.length co43 : Value).ownBlock) (Kd.R_keptB (HO_5.out) hkp (fun k_ hk_ hs_ => (hk_) hs_)) (fun k_ hk_ => hk_.1)); have n1_ := Zad.mk (Kd.R_reok rfl hy0 (fun k_ e_ => HO_7.out.1 k_ e_)); have n2_ := Zad.mk (hb); clear HO_5; clear HO_7; clear HB; have HO_5 := n0_; have HO_7 := n1_; have HB := n2_) | ((with_reducible refine Zau (f := 14) rfl ?_); refine Zbr (some 45) rfl rfl Tryz.func14 (by kernel_rfl) rfl #[.slice Ao43 t111.length co43, .int .i64 1] rfl (by (try simp only [List.map_toArray, List.map_cons, List.map_nil]); first | done | (rw [show t111.length = t105.length from (Kd.R_reads' HO_7.out).1.symm] <;> rfl) | rfl | (simp only [List.length_drop, List.length_take]; rfl)) ?_; (with_reducible refine (Za2.calls kj6 _ _ t111 1 t112 _ ?side1 ?side2 A18.out).mono ?_); (case side1 => repeat (first | exact (Kd.R_reads' HO_7.out).2.2 | (with_reducible refine Kd.C_alloc ?_ _) | (with_reducible refine Kd.C_drewN ?_ _) | (with_reducible refine Kd.C_drew ?_))); (case side2 => rw [show t111.length = t105.length from (Kd.R_reads' HO_7.out).1.symm]; exact (Kd.R_reads' HO_7.out).2.1); rintro e w45 ⟨rfl, hb⟩; refine ⟨_, rfl, ?_⟩; have n0_ := Zad.mk (Kd.R_below (by (with_reducible repeat (first | apply Kd.R_alloc | apply Kd.R_drewN | apply Kd.R_drew)); exact HO_5.out) hb); have n1_ := Zad.mk (Kd.R_below (by (with_reducible repeat (first | apply Kd.R_alloc | apply Kd.R_drewN | apply Kd.R_drew)); exact HO_7.out) hb); have n2_ := Zad.mk (Zal (by with_reducible repeat first | exact HB.out | apply Zac | apply Zaa | apply Zab) hb); clear HO_5; clear HO_7; clear HB; have HO_5 := n0_; have HO_7 := n1_; have HB := n2_))
        go_ret
        exact ⟨by first | rfl | (simp [Zao, Zan] <;> rfl) | (simp [*, Zao, Zan] <;> rfl), by repeat (first | (with_reducible first | exact HB.out | apply Zac | apply Zaa | apply Zab) | exact HB.out)⟩
def laws_FnExactAllStill.Pure : Prop := ∀ (a0 : ByteArray) (a1 : ByteArray), a0.size ≤ 140737488351232 → a1.size ≤ 140737488351232 → ∃ k, laws_FnExactAllStill.f k a0 a1 = some true
theorem laws_FnExactAllStill.walk (P : laws_FnExactAllStill.Pure) (a0 : ByteArray) (a1 : ByteArray) (w : World) (w0 : a0.size ≤ 140737488351232) (w1 : a1.size ≤ 140737488351232) :
  Calls Tryz.prog 8 #[.string a0, .string a1] w fun e w' => e = .returned (.bool true) ∧ Below w.heap.size w w' := by
 obtain ⟨k, h⟩ := P a0 a1 w0 w1
 refine (laws_FnExactAllStill.calls k a0 a1 true w h).mono ?_
 rintro e w' ⟨rfl, hd⟩
 exact ⟨rfl, hd⟩
end Go.Proofs.YtjohcjkidoalkaaGreatDoor.PA
namespace Go.Proofs.YtjohcjkidoalkaaGreatDoor.fnExactAllStill
open Go.ChangeShapes Go.WideShapes Go.ChangeAt Go.RowKit
open Go.ChangeMaps (open_string shut_string)
theorem own : ownKnob Tryz.prog.godebug = none := by kernel_rfl
set_option maxRecDepth 100000 in
theorem lifted (hP : PA.laws_FnExactAllStill.Pure) (os : Os) (started : os.Started) (H : Type) (enc : TypeId × Value → H) :
  ReturnsInHanded {} Tryz.checked os 8 .any (fun w args => (Rows.fnExactAllStillSpec.pre enc Tryz.prog Tryz.f8 [] false w args ∧ laidMetH Tryz.prog Rows.fnExactAllStillRow.laid w) ∧ sizedMet enc Tryz.prog Tryz.f8 (OpenSpec.ofChange Rows.fnExactAllStillSpec) false w args)
   (Rows.fnExactAllStillSpec.post enc Tryz.prog Tryz.f8 false true false false) := by
 refine returnsInHanded_of_change_and (C := Tryz.checked) (X := fun w _ => laidMetH Tryz.prog Rows.fnExactAllStillRow.laid w) (fun _ _ _ hh h => h.of_heap hh) own started (by kernel_rfl) Tryz.func8
  (ChangeSpec.witness_shaped (enc := enc) (C := Tryz.checked) (os := os) (X := fun w _ => laidMetH Tryz.prog Rows.fnExactAllStillRow.laid w) false (World.laidAll Tryz.prog os Rows.fnExactAllStillRow.laid) #[.string ByteArray.empty, .string ByteArray.empty] 8 (World.laidAll_os _ _ _)
   (World.shaped_of_ZipB (by kernel_rfl) (by kernel_rfl)) (by kernel_rfl) (by kernel_rfl) (by kernel_rfl)
   (by rw [MakeChecks.laidMetH_plain _ _ _ (by kernel_rfl)]; exact laidMet_laidAll _ (by kernel_rfl) (by kernel_rfl))) ?_
 intro W base args ds gs before hval0 hW hcnd hsz0 _ _
 have hsz : (DataW.weightsEach Tryz.prog (Tryz.f8.params.toList ++ Rows.fnExactAllStillSpec.plain.varTypes Tryz.prog) (ds ++ gs)).all (· ≤ reachBytes) = true := hsz0
 have hval : ∀ (j : Nat) t v, Tryz.f8.params[j]? = some t → args[j]? = some v → Value.okWide Tryz.prog W .any base t v := hval0
 have hW' := hW
 obtain ⟨p, q, hA0, hV, rfl, hfz, hnd⟩ := hW
 have hA : DataW.TrodAll enc Tryz.prog W 0 (fun _ => true) true Tryz.f8.params.toList args.toList ds p := hA0
 rw [Tryz.params8] at hA hval hsz
 obtain ⟨v0, vs0, d0, ds0, p0, q0, hargs, rfl, rfl, h0, r0⟩ := trodAll_cons hA
 obtain ⟨v1, vs1, d1, ds1, p1, q1, rfl, rfl, rfl, h1, r1⟩ := trodAll_cons r0
 obtain ⟨rfl, rfl, rfl⟩ := trodAll_nil r1
 obtain rfl : args = #[v0, v1] := by cases args; simp_all
 obtain ⟨rfl, rfl⟩ := trodVars_none hV
 obtain ⟨a0, rfl, rfl, rfl, y0⟩ := open_string Tryz.underlying9 (hval 0 9 v0 rfl rfl) h0
 have w0 : a0.size ≤ 140737488351232 := by
  have z := sized_string hsz (j := 0) (t := 9) rfl rfl
  rw [Array.length_toList] at z
  exact z
 obtain ⟨a1, rfl, rfl, rfl, y1⟩ := open_string Tryz.underlying9 (hval 1 9 v1 rfl rfl) h1
 have w1 : a1.size ≤ 140737488351232 := by
  have z := sized_string hsz (j := 1) (t := 9) rfl rfl
  rw [Array.length_toList] at z
  exact z
 clear hA0 hval0 hsz0 hsz
 refine (PA.laws_FnExactAllStill.walk hP a0 a1 W w0 w1).mono fun e W' ⟨he, bel⟩ => ?_
 subst he
 exact ⟨_, rfl, _, _, _, [], _, [], hW', trodAll_mk1 (shut_bool Tryz.underlying4 _), (trodAll_cons_mk (shut_string Tryz.underlying9 y0) (trodAll_cons_mk (shut_string Tryz.underlying9 y1) trodAll_mk0)), rfl, bel.frame _, fun h => by cases h⟩
theorem over (hP : PA.laws_FnExactAllStill.Pure) : Rows.FnExactAllStillSaid :=
 OpenClaim.holds_of_wide 8 Tryz.f8 rfl rfl rfl rfl rfl rfl rfl ⟨rfl, rfl, rfl, rfl, rfl⟩ rfl rfl rfl rfl rfl (by kernel_rfl) Tryz.func8 (by kernel_rfl)
  (of_decide_eq_true (by kernel_rfl)) (by unfold Func.isWrapper; first | (rw [if_pos (by decide +kernel)]; kernel_rfl) | (rw [if_neg (by decide +kernel)]; exact ⟨rfl, rfl⟩))
  (fun os started H enc _ => lifted hP os started H enc)
theorem carded (hP : PA.laws_FnExactAllStill.Pure) : Rows.FnExactAllStillCardSaid :=
 Claim7.holds_tied_plain_at .later [] [.data, .pinned] true (true, "cf7b0e41f916e4a641c3e0a935cb987e17fcc48cb0d7eda7c3c63c26678e2e2e") false
  (over hP) (fun _ h => by cases h) (by kernel_rfl) (fun _ h => by cases h) fnExactAllStill_row_tie rfl ⟨rfl, rfl⟩ (by kernel_rfl) rfl
  (fun f fn hf hfn => by
   obtain rfl : f = 8 := Option.some.inj ((show Tryz.prog.funcNamed "loop.example/g01199/laws.FnExactAllStill" = some 8 by kernel_rfl).symm.trans hf) |>.symm
   obtain rfl : fn = Tryz.f8 := (Option.some.inj (Tryz.func8.symm.trans hfn)).symm
   exact ⟨by kernel_rfl, fun j t ht => by
    rw [Tryz.params8] at ht
    have hm : t ∈ [9] := by
     have := Array.mem_of_getElem? ht
     simpa using this
    have hall : ([9].all fun u => !Tryz.prog.wantsStandIn u) = true := by kernel_rfl
    exact (show Tryz.prog.wantsStandIn t = false by simpa using List.all_eq_true.1 hall t hm)⟩)
  (by kernel_rfl)
end Go.Proofs.YtjohcjkidoalkaaGreatDoor.fnExactAllStill
namespace Go.Proofs.YtjohcjkidoalkaaGreatDoor.Plain
open Go.RowKit Go.Proofs.YtjohcjkidoalkaaGreatDoor.PA Go.PW.PrintWords Go.PW.PrintLast
def Ev {α : Type} (f : Nat → Option α) (r : α) : Prop := ∃ k0, ∀ k, k0 ≤ k → f k = some r
theorem Ev.const {α : Type} {o : Option α} {r : α} (h : o = some r) : Ev (fun _ => o) r := ⟨0, fun _ _ => h⟩
theorem Ev.shift {α : Type} {f g : Nat → Option α} {r : α} (h : Ev g r) (hs : ∀ k, f (k + 1) = g k) : Ev f r := by
 obtain ⟨k0, h⟩ := h
 refine ⟨k0 + 1, fun k hk => ?_⟩
 obtain ⟨j, rfl⟩ : ∃ j, k = j + 1 := ⟨k - 1, by omega⟩
 rw [hs, h j (by omega)]
theorem Ev.bind {α β : Type} {f : Nat → Option α} {g : Nat → α → Option β} {a : α} {r : β} (h : Ev f a) (hg : Ev (fun k => g k a) r) : Ev (fun k => (f k).bind (g k)) r := by
 obtain ⟨k0, h⟩ := h
 obtain ⟨k1, hg⟩ := hg
 refine ⟨max k0 k1, fun k hk => ?_⟩
 show (f k).bind (g k) = some r
 rw [h k (by omega)]
 exact hg k (by omega)
theorem Ev.congr {α : Type} {f g : Nat → Option α} {r : α} (h : Ev g r) (hs : ∀ k, f k = g k) : Ev f r := by
 obtain ⟨k0, h⟩ := h
 exact ⟨k0, fun k hk => by rw [hs, h k hk]⟩
theorem Ev.get {α : Type} {f : Nat → Option α} {r : α} (h : Ev f r) : ∃ k, f k = some r := h.elim fun k0 h => ⟨k0, h k0 (Nat.le_refl _)⟩
theorem Zcc (j : Nat) (h : j < 4294967296) : wrap64 ((j : Int) + 1) = ((j + 1 : Nat) : Int) := by
 unfold wrap64; omega
theorem Zc1 {x : Int} (h1 : -4294967296 < x) (h2 : x < 4294967296) : wrap64 x = x := by
 unfold wrap64; omega
theorem rd_n (l : List Int) (j : Nat) (h : j < l.length) : rd l (j : Int) = l[j] := by simp [rd, List.getD_eq_getElem?_getD, List.getElem?_eq_getElem h]
theorem Zcg {α : Type} (l : List α) (j : Nat) (h : j < l.length) : l.drop j = l[j] :: l.drop (j + 1) := List.drop_eq_getElem_cons h
theorem Zg9 (c : Int) : Zcq.f c = some (ballB c) := by
 unfold Zcq.f ballB
 by_cases h : c = 111
 ·simp [h]
 ·by_cases h2 : 97 ≤ c <;> simp [h, h2]
theorem Zkp (w h : Int) (l : List Int) (hl : l.length < 4294967296) : Ev (fun k => Zbi.f k w h l) (((List.range l.length).filter fun (j : Nat) => ballB (rd l (j : Int))).map fun (j : Nat) => (j : Int)) := by
 have main : ∀ (m j : Nat) (acc : List Int), j + m = l.length → acc.length ≤ j → Ev (fun k => Zbi.l0 k acc l (l.length : Int) (j : Int)) (acc ++ (((List.range' j m).filter fun (j : Nat) => ballB (rd l (j : Int))).map fun (j : Nat) => (j : Int))) := by
  intro m
  induction m with
  | zero =>
   intro j acc hj ha
   refine Ev.shift (g := fun _ => some acc) (Ev.const (by simp)) (fun k => ?_)
   simp only [Zbi.l0]
   rw [if_neg (by omega)]
  | succ m ih =>
   intro j acc hj ha
   refine Ev.shift (g := fun k => if ballB (rd l j) = true then Zbi.l0 k (acc ++ [(j : Int)]) l (l.length : Int) ((j + 1 : Nat) : Int) else Zbi.l0 k acc l (l.length : Int) ((j + 1 : Nat) : Int)) ?_ (fun k => ?_)
   ·rw [List.range'_succ, List.filter_cons]
    cases hb : ballB (rd l j)
    ·simpa using ih (j + 1) acc (by omega) (by omega)
    ·simpa using ih (j + 1) (acc ++ [(j : Int)]) (by omega) (by simp; omega)
   ·simp only [Zbi.l0]
    rw [if_pos (by omega), if_pos (by omega), if_pos (by omega), Zg9, Zcc j (by omega)]
    simp only [Option.bind_some]
    rw [if_pos (show acc.length < 17592186044416 by omega)]
 have := main l.length 0 [] (by simp) (by simp)
 rw [← List.range_eq_range'] at this
 exact this.congr (fun k => rfl)
def openL (l : List Int) : List Int := ((List.range l.length).filter fun (j : Nat) => rd l (j : Int) != 35).map fun (j : Nat) => (j : Int)
theorem Zhu (w h : Int) (l : List Int) (hl : l.length < 4294967296) : Ev (fun k => Zaq.f k w h l) (openL l) := by
 have main : ∀ (m j : Nat) (acc : List Int), j + m = l.length → acc.length ≤ j → Ev (fun k => Zaq.l0 k acc l (l.length : Int) (j : Int)) (acc ++ (((List.range' j m).filter fun (j : Nat) => rd l (j : Int) != 35).map fun (j : Nat) => (j : Int))) := by
  intro m
  induction m with
  | zero =>
   intro j acc hj ha
   refine Ev.shift (g := fun _ => some acc) (Ev.const (by simp)) (fun k => ?_)
   simp only [Zaq.l0]
   rw [if_neg (by omega)]
  | succ m ih =>
   intro j acc hj ha
   refine Ev.shift (g := fun k => if (rd l j != 35) = true then Zaq.l0 k (acc ++ [(j : Int)]) l (l.length : Int) ((j + 1 : Nat) : Int) else Zaq.l0 k acc l (l.length : Int) ((j + 1 : Nat) : Int)) ?_ (fun k => ?_)
   ·rw [List.range'_succ, List.filter_cons]
    cases hb : rd l j != 35
    ·simpa using ih (j + 1) acc (by omega) (by omega)
    ·simpa using ih (j + 1) (acc ++ [(j : Int)]) (by omega) (by simp; omega)
   ·simp only [Zaq.l0, Zdc.f]
    rw [if_pos (by omega), if_pos (by omega), if_pos (by omega), Zcc j (by omega)]
    simp only [Option.bind_some]
    rw [if_pos (show acc.length < 17592186044416 by omega)]
 have := main l.length 0 [] (by simp) (by simp)
 rw [← List.range_eq_range'] at this
 exact this.congr (fun k => rfl)
theorem Zi7 (w h : Int) (l : List Int) (hl : l.length < 4294967296) : Ev (fun k => Za6.l0 k 0 l (l.length : Int) 0 w h l) (w, h, l, (((List.range l.length).filter fun (j : Nat) => rd l (j : Int) == 46).length : Int), true) := by
 have main : ∀ (m j n : Nat), j + m = l.length → n ≤ j → Ev (fun k => Za6.l0 k (n : Int) l (l.length : Int) (j : Int) w h l) (w, h, l, ((n + ((List.range' j m).filter fun (j : Nat) => rd l (j : Int) == 46).length : Nat) : Int), true) := by
  intro m
  induction m with
  | zero =>
   intro j n hj hn
   refine Ev.shift (g := fun _ => some (w, h, l, (n : Int), true)) (Ev.const (by simp)) (fun k => ?_)
   simp only [Za6.l0]
   rw [if_neg (by omega)]
  | succ m ih =>
   intro j n hj hn
   refine Ev.shift (g := fun k => if rd l j = 46 then Za6.l0 k ((n + 1 : Nat) : Int) l (l.length : Int) ((j + 1 : Nat) : Int) w h l else Za6.l0 k (n : Int) l (l.length : Int) ((j + 1 : Nat) : Int) w h l) ?_ (fun k => ?_)
   ·rw [List.range'_succ, List.filter_cons]
    by_cases hb : rd l j = 46
    ·have := ih (j + 1) (n + 1) (by omega) (by omega)
     simp only [hb, if_true, beq_self_eq_true, List.length_cons]
     rw [show n + (((List.range' (j + 1) m).filter fun (j : Nat) => rd l (j : Int) == 46).length + 1) = n + 1 + ((List.range' (j + 1) m).filter fun (j : Nat) => rd l (j : Int) == 46).length by omega]
     exact this
    ·have hb2 : (rd l j == 46) = false := by simpa using hb
     simp only [hb, if_false, hb2, Bool.false_eq_true]
     exact ih (j + 1) n (by omega) (by omega)
   ·simp only [Za6.l0]
    rw [if_pos (by omega), if_pos (by omega), if_pos (by omega), Zcc j (by omega), Zcc n (by omega)]
 have := main l.length 0 0 (by simp) (by simp)
 rw [← List.range_eq_range'] at this
 simpa using this
def fillS : List Nat → Nat → List Int → List Int
 | [], _, x => x
 | i :: is, s, x => fillS is (s / 2) (if s % 2 = 1 then x.set i 111 else x)
theorem Zgb : ∀ (is : List Nat) (s : Nat) (x : List Int), (fillS is s x).length = x.length
 | [], _, _ => rfl
 | i :: is, s, x => by
  rw [fillS, Zgb is]
  split <;> simp
def freeL (l : List Int) : List Nat := (List.range l.length).filter fun (j : Nat) => rd l (j : Int) == 46
theorem Zmc (w h : Int) (l : List Int) (s : Nat) (hs : s < 4294967296) (hl : l.length < 4294967296) : Ev (fun k => Zbx.f k w h l (s : Int)) (w, h, fillS (freeL l) s l) := by
 have main : ∀ (m j s : Nat) (x : List Int), j + m = l.length → s < 4294967296 → x.length = l.length → Ev (fun k => Zbx.l0 k (s : Int) l (l.length : Int) (j : Int) w h x) (w, h, fillS ((List.range' j m).filter fun (j : Nat) => rd l (j : Int) == 46) s x) := by
  intro m
  induction m with
  | zero =>
   intro j s x hj hs hx
   refine Ev.shift (g := fun _ => some (w, h, x)) (Ev.const (by simp [fillS])) (fun k => ?_)
   simp only [Zbx.l0]
   rw [if_neg (by omega)]
  | succ m ih =>
   intro j s x hj hs hx
   refine Ev.shift (g := fun k => if rd l j = 46 then Zbx.l0 k ((s / 2 : Nat) : Int) l (l.length : Int) ((j + 1 : Nat) : Int) w h (if s % 2 = 1 then x.set j 111 else x) else Zbx.l0 k (s : Int) l (l.length : Int) ((j + 1 : Nat) : Int) w h x) ?_ (fun k => ?_)
   ·rw [List.range'_succ, List.filter_cons]
    by_cases hb : rd l j = 46
    ·simp only [hb, if_true, beq_self_eq_true, fillS]
     exact ih (j + 1) (s / 2) _ (by omega) (by omega) (by split <;> simp [hx])
    ·have hb2 : (rd l j == 46) = false := by simpa using hb
     simp only [hb, if_false, hb2, Bool.false_eq_true]
     exact ih (j + 1) s x (by omega) hs hx
   ·simp only [Zbx.l0]
    rw [if_pos (by omega), if_pos (by omega), if_pos (by omega), Zcc j (by omega)]
    have h1 : Int.tmod (s : Int) 2 = ((s % 2 : Nat) : Int) := by rw [Int.tmod_eq_emod_of_nonneg (by omega)]; omega
    have h2 : wrap64 (Int.tdiv (s : Int) 2) = ((s / 2 : Nat) : Int) := by rw [Int.tdiv_eq_ediv_of_nonneg (by omega)]; unfold wrap64; omega
    rw [h1, h2]
    by_cases hb : rd l j = 46
    ·rw [if_pos hb, if_pos hb]
     by_cases h3 : s % 2 = 1
     ·rw [if_pos (by omega), if_pos (by omega), if_pos h3, Int.toNat_natCast]
     ·rw [if_neg (by omega), if_neg h3]
    ·rw [if_neg hb, if_neg hb]
 unfold Zbx.f Zcj.f
 have := main l.length 0 s l (by simp) hs rfl
 rw [← List.range_eq_range'] at this
 refine this.congr (fun k => ?_)
 simp only [Option.bind_some, List.length_nil, Nat.zero_add, List.nil_append]
 rw [if_pos (show l.length < 140737488355328 by omega)]
 rfl
theorem fillS_eq (is : List Nat) (s : Nat) (x : List Int) : fillS is s x = fillJ x (is.map fun (j : Nat) => (j : Int)) s is.length := by
 have main : ∀ (m j : Nat), j + m = is.length → fillS (is.drop j) (s / 2 ^ j) (fillJ x (is.map fun (j : Nat) => (j : Int)) s j) = fillJ x (is.map fun (j : Nat) => (j : Int)) s is.length := by
  intro m
  induction m with
  | zero =>
   intro j hj
   obtain rfl : j = is.length := by omega
   simp [fillS]
  | succ m ih =>
   intro j hj
   have hlt : j < is.length := by omega
   rw [Zcg is j hlt, fillS, ← ih (j + 1) (by omega), Zf5, Nat.testBit_eq_decide_div_mod_eq, Nat.div_div_eq_div_mul, ← Nat.pow_succ]
   congr 1
   have hr : (rd (is.map fun (j : Nat) => (j : Int)) (j : Int)).toNat = is[j] := by
    rw [rd_n _ _ (by simpa using hlt)]; simp
   rw [hr]
   simp
 simpa [fillJ] using main is.length 0 (by simp)
def mvD (cells : List Int) : Nat → Nat → List Int → List Int
 | _, _, [] => []
 | n, j, i :: is => if ballB (rd cells i) = true then ((j : Int) - (n : Int)) :: mvD cells (n + 1) (j + 1) is else mvD cells n (j + 1) is
theorem Zfa (cells : List Int) : ∀ (n j : Nat) (is : List Int), (mvD cells n j is).length ≤ is.length
 | _, _, [] => by simp [mvD]
 | n, j, i :: is => by
  rw [mvD]
  split
  ·have := Zfa cells (n + 1) (j + 1) is
   simp; omega
  ·have := Zfa cells n (j + 1) is
   simp; omega
theorem rdL_n (S : List (List Int)) (j : Nat) (h : j < S.length) : rd_L3 S (j : Int) = S[j] := by simp [rd_L3, List.getD_eq_getElem?_getD, List.getElem?_eq_getElem h]
def InC (cells : List Int) (S : List (List Int)) : Prop := ∀ own ∈ S, ∀ k ∈ own, 0 ≤ k ∧ k < cells.length
theorem Zkr (w h : Int) (cells : List Int) (S : List (List Int)) (hS : InC cells S) (hl : S.length < 1000000) (ho : ∀ own ∈ S, own.length < 1000000) : Ev (fun k => Za4.l0 k [] S (S.length : Int) 0 w h cells) (S.flatMap (mvD cells 0 0)) := by
 have inner : ∀ (i : Nat) (hi : i < S.length) (r : List Int) (m j n : Nat) (acc : List Int), j + m = S[i].length → n ≤ j → acc.length ≤ i * 1000000 + j →
   Ev (fun k => Za4.l0 k (acc ++ mvD cells n j (S[i].drop j)) S (S.length : Int) ((i + 1 : Nat) : Int) w h cells) r →
   Ev (fun k => Za4.l1 k acc (n : Int) S (S.length : Int) (i : Int) S[i] (S[i].length : Int) (j : Int) w h cells) r := by
  intro i hi r m
  have hoi := ho S[i] (List.getElem_mem _)
  induction m with
  | zero =>
   intro j n acc hj hn ha hr
   refine Ev.shift hr (fun k => ?_)
   simp only [Za4.l1]
   rw [if_neg (by omega), Zcc i (by omega), List.drop_eq_nil_of_le (by omega), mvD, List.append_nil]
  | succ m ih =>
   intro j n acc hj hn ha hr
   have hlt : j < S[i].length := by omega
   have hc := hS S[i] (List.getElem_mem _) S[i][j] (List.getElem_mem _)
   refine Ev.shift (g := fun k => if ballB (rd cells S[i][j]) = true then Za4.l1 k (acc ++ [(j : Int) - (n : Int)]) ((n + 1 : Nat) : Int) S (S.length : Int) (i : Int) S[i] (S[i].length : Int) ((j + 1 : Nat) : Int) w h cells else Za4.l1 k acc (n : Int) S (S.length : Int) (i : Int) S[i] (S[i].length : Int) ((j + 1 : Nat) : Int) w h cells) ?_ (fun k => ?_)
   ·rw [Zcg _ j hlt, mvD] at hr
    cases hb : ballB (rd cells S[i][j])
    ·simp only [Bool.false_eq_true, if_false, hb] at hr ⊢
     exact ih (j + 1) n acc (by omega) (by omega) (by omega) hr
    ·simp only [if_true, hb] at hr ⊢
     exact ih (j + 1) (n + 1) (acc ++ [(j : Int) - (n : Int)]) (by omega) (by omega) (by rw [List.length_append, List.length_singleton]; omega) (by simpa using hr)
   ·simp only [Za4.l1]
    rw [if_pos (by omega), if_pos (by omega), if_pos (by omega), rd_n _ _ hlt, if_pos hc.1, if_pos hc.2, Zg9, Zcc j (by omega), Zcc n (by omega)]
    simp only [Option.bind_some]
    rw [if_pos (show acc.length < 17592186044416 by omega), Zc1 (by omega) (by omega)]
 have outer : ∀ (m i : Nat) (acc : List Int), i + m = S.length → acc.length ≤ i * 1000000 → Ev (fun k => Za4.l0 k acc S (S.length : Int) (i : Int) w h cells) (acc ++ (S.drop i).flatMap (mvD cells 0 0)) := by
  intro m
  induction m with
  | zero =>
   intro i acc hi ha
   refine Ev.shift (g := fun _ => some acc) (Ev.const (by rw [List.drop_eq_nil_of_le (by omega)]; simp)) (fun k => ?_)
   simp only [Za4.l0]
   rw [if_neg (by omega)]
  | succ m ih =>
   intro i acc hi ha
   have hlt : i < S.length := by omega
   refine Ev.shift (g := fun k => Za4.l1 k acc ((0 : Nat) : Int) S (S.length : Int) (i : Int) S[i] (S[i].length : Int) ((0 : Nat) : Int) w h cells) ?_ (fun k => ?_)
   ·refine inner i hlt _ S[i].length 0 0 acc (Nat.zero_add _) (Nat.le_refl _) (Nat.le_trans ha (Nat.le_add_right _ _)) ?_
    have hml := Zfa cells 0 0 S[i]
    have hoi := ho S[i] (List.getElem_mem _)
    have e1 : (acc ++ mvD cells 0 0 S[i]).length = acc.length + (mvD cells 0 0 S[i]).length := List.length_append
    have e2 : (acc ++ mvD cells 0 0 S[i]).length ≤ (i + 1) * 1000000 := by
     generalize (acc ++ mvD cells 0 0 S[i]).length = x at e1
     generalize (mvD cells 0 0 S[i]).length = y at e1 hml
     omega
    have := ih (i + 1) (acc ++ mvD cells 0 0 S[i]) (by omega) e2
    rw [Zcg S i hlt, List.flatMap_cons]
    simpa using this
   ·simp only [Za4.l0]
    rw [if_pos (by omega), if_pos (by omega), if_pos (by omega), rdL_n S i hlt]
    rfl
 simpa using outer S.length 0 [] (by simp) (by simp)
def Zg0 (a b : Int) : Int := if a < b then a else b
theorem Zkx (a b : Int) : Zdk.f a b = some (Zg0 a b) := by
 unfold Zdk.f Zg0
 split <;> rfl
theorem Zhk (l : List Int) (h0 : 0 < l.length) (hl : l.length < 4294967296) : Ev (fun k => Zbp.f k l) (l.foldl Zg0 (rd l 0)) := by
 have main : ∀ (m j : Nat) (a : Int), j + m = l.length → Ev (fun k => Zbp.l0 k a l (l.length : Int) (j : Int)) ((l.drop j).foldl Zg0 a) := by
  intro m
  induction m with
  | zero =>
   intro j a hj
   refine Ev.shift (g := fun _ => some a) (Ev.const (by rw [List.drop_eq_nil_of_le (by omega)]; rfl)) (fun k => ?_)
   simp only [Zbp.l0]
   rw [if_neg (by omega)]
  | succ m ih =>
   intro j a hj
   have hlt : j < l.length := by omega
   refine Ev.shift (g := fun k => Zbp.l0 k (Zg0 a l[j]) l (l.length : Int) ((j + 1 : Nat) : Int)) ?_ (fun k => ?_)
   ·rw [Zcg _ j hlt, List.foldl_cons]
    exact ih (j + 1) _ (by omega)
   ·simp only [Zbp.l0]
    rw [if_pos (by omega), if_pos (by omega), if_pos (by omega), rd_n _ _ hlt, Zkx, Zcc j (by omega)]
    rfl
 have := main l.length 0 (rd l 0) (by omega)
 refine Ev.congr (by simpa using this) (fun k => ?_)
 unfold Zbp.f
 rw [if_pos (by omega)]
theorem Zlf (w h x y : Int) (cells : List Int) (hw : 1 ≤ w) (hw7 : w ≤ 7) (hh : 1 ≤ h) (hh7 : h ≤ 7) : Za0.f w h cells x y = some (decide (0 ≤ x ∧ x < w ∧ 0 ≤ y ∧ y < h)) := by
 simp only [Za0.f, Zc9.f]
 rw [Zc1 (x := w - 1) (by omega) (by omega), Zc1 (x := h - 1) (by omega) (by omega)]
 by_cases h1 : 0 ≤ x <;> by_cases h2 : x < w <;> by_cases h3 : 0 ≤ y <;> by_cases h4 : y < h <;>
  simp [h1, h2, h3, h4, show (x ≤ w - 1) = (x < w) from propext (by omega), show (y ≤ h - 1) = (y < h) from propext (by omega)]
def Zdd (w h : Int) (cells : List Int) (x y : Int) : Int :=
 if 0 ≤ x ∧ x < w ∧ 0 ≤ y ∧ y < h then (if rd cells (y * w + x) = 35 then -1 else y * w + x) else -1
theorem Zjl (w h x y : Int) (hw : 1 ≤ w) (hx : 0 ≤ x) (hxw : x < w) (hy : 0 ≤ y) (hyh : y < h) : 0 ≤ y * w + x ∧ y * w + x < w * h := by
 have h1 : 0 ≤ y * w := Int.mul_nonneg hy (by omega)
 have h2 : (y + 1) * w ≤ h * w := Int.mul_le_mul_of_nonneg_right (by omega) (by omega)
 rw [Int.add_mul, Int.one_mul, Int.mul_comm h w] at h2
 omega
theorem step_eq (w h x y : Int) (cells : List Int) (hw : 1 ≤ w) (hw7 : w ≤ 7) (hh : 1 ≤ h) (hh7 : h ≤ 7) (hl : (cells.length : Int) = w * h) (hb : w * h ≤ 49)
  (hx : -1 ≤ x ∧ x ≤ 7) (hy : -1 ≤ y ∧ y ≤ 49) :
  ((Za0.f w h cells (wrap64 x) (wrap64 y)).bind fun t => if t = true then (if 0 ≤ wrap64 (wrap64 (wrap64 y * w) + wrap64 x) then (if wrap64 (wrap64 (wrap64 y * w) + wrap64 x) < (cells.length : Int) then (if rd cells (wrap64 (wrap64 (wrap64 y * w) + wrap64 x)) = 35 then some (-1) else some (wrap64 (wrap64 (wrap64 y * w) + wrap64 x))) else none) else none) else some (-1)) = some (Zdd w h cells x y) := by
 rw [Zc1 (x := x) (by omega) (by omega), Zc1 (x := y) (by omega) (by omega), Zlf w h x y cells hw hw7 hh hh7, Option.bind_some, Zdd]
 by_cases hc : 0 ≤ x ∧ x < w ∧ 0 ≤ y ∧ y < h
 ·have := Zjl w h x y hw hc.1 hc.2.1 hc.2.2.1 hc.2.2.2
  have h1 : 0 ≤ y * w := Int.mul_nonneg hc.2.2.1 (by omega)
  rw [Zc1 (x := y * w) (by omega) (by omega), Zc1 (x := y * w + x) (by omega) (by omega)]
  rw [decide_eq_true hc, if_pos rfl, if_pos this.1, if_pos (by omega), if_pos hc]
  split <;> rfl
 ·rw [decide_eq_false hc, if_neg (by simp), if_neg hc]
theorem Zgg (w h x y : Int) (cells : List Int) (hw : 1 ≤ w) (hw7 : w ≤ 7) (hh : 1 ≤ h) (hh7 : h ≤ 7) (hl : (cells.length : Int) = w * h) (hb : w * h ≤ 49)
  (hx : -1 ≤ x ∧ x ≤ 7) (hy : -1 ≤ y ∧ y ≤ 49) :
  ((Za0.f w h cells x y).bind fun t => if t = true then (if 0 ≤ wrap64 (wrap64 (y * w) + x) then (if wrap64 (wrap64 (y * w) + x) < (cells.length : Int) then (if rd cells (wrap64 (wrap64 (y * w) + x)) = 35 then some (-1) else some (wrap64 (wrap64 (y * w) + x))) else none) else none) else some (-1)) = some (Zdd w h cells x y) := by
 have := step_eq w h x y cells hw hw7 hh hh7 hl hb hx hy
 rw [Zc1 (x := x) (by omega) (by omega), Zc1 (x := y) (by omega) (by omega)] at this
 exact this
def Zcp (w h : Int) (cells : List Int) (i d : Int) : Int :=
 if d = 0 then Zdd w h cells (i % w) (i / w - 1) else if d = 1 then Zdd w h cells (i % w + 1) (i / w)
 else if d = 2 then Zdd w h cells (i % w) (i / w + 1) else Zdd w h cells (i % w - 1) (i / w)
theorem Zfy (w h i d : Int) (cells : List Int) (hw : 1 ≤ w) (hw7 : w ≤ 7) (hh : 1 ≤ h) (hh7 : h ≤ 7) (hl : (cells.length : Int) = w * h) (hb : w * h ≤ 49) (hi : 0 ≤ i) (hi2 : i < w * h) :
  Zck.f w h cells i d = some (Zcp w h cells i d) := by
 have m0 : 0 ≤ i % w := Int.emod_nonneg _ (by omega)
 have m1 : i % w < w := Int.emod_lt_of_pos _ (by omega)
 have d0 : 0 ≤ i / w := Int.ediv_nonneg hi (by omega)
 have d1 : i / w ≤ i := Int.ediv_le_self _ hi
 simp only [Zck.f, Int.tmod_eq_emod_of_nonneg hi, Int.tdiv_eq_ediv_of_nonneg hi]
 rw [if_neg (by omega)]
 rw [Zc1 (x := i / w) (by omega) (by omega), Zc1 (x := i / w - 1) (by omega) (by omega), Zc1 (x := i / w + 1) (by omega) (by omega), Zc1 (x := i % w + 1) (by omega) (by omega), Zc1 (x := i % w - 1) (by omega) (by omega)]
 rw [Zgg w h (i % w) (i / w - 1) cells hw hw7 hh hh7 hl hb (by omega) (by omega), Zgg w h (i % w + 1) (i / w) cells hw hw7 hh hh7 hl hb (by omega) (by omega),
  Zgg w h (i % w) (i / w + 1) cells hw hw7 hh hh7 hl hb (by omega) (by omega), Zgg w h (i % w - 1) (i / w) cells hw hw7 hh hh7 hl hb (by omega) (by omega), Zcp]
 by_cases e0 : d = 0
 ·rw [if_pos e0, if_pos e0]
 ·by_cases e1 : d = 1
  ·rw [if_neg e0, if_neg e0, if_pos e1, if_pos e1]
  ·by_cases e2 : d = 2
   ·rw [if_neg e0, if_neg e0, if_neg e1, if_neg e1, if_pos e2, if_pos e2]
   ·rw [if_neg e0, if_neg e0, if_neg e1, if_neg e1, if_neg e2, if_neg e2]
def Zdo (w h : Int) (cells : List Int) (d : Int) : Nat → Int → List Int
 | 0, _ => []
 | n + 1, c => if c ≥ 0 then c :: Zdo w h cells d n (Zcp w h cells c d) else []
def Zir (w h : Int) (cells : List Int) (d : Int) : Nat → Int → Prop
 | 0, c => c < 0
 | n + 1, c => c < 0 ∨ Zir w h cells d n (Zcp w h cells c d)
theorem Zfv (w h x y : Int) (cells : List Int) (hw : 1 ≤ w) (hb : 0 ≤ w * h) : Zdd w h cells x y < w * h ∨ Zdd w h cells x y = -1 := by
 unfold Zdd
 split
 ·rename_i hc
  have := Zjl w h x y hw hc.1 hc.2.1 hc.2.2.1 hc.2.2.2
  split <;> omega
 ·omega
theorem Ze6 (w h c d : Int) (cells : List Int) (hw : 1 ≤ w) (hb : 0 < w * h) : Zcp w h cells c d < w * h := by
 unfold Zcp
 have := Zfv w h (c % w) (c / w - 1) cells hw (by omega)
 have := Zfv w h (c % w + 1) (c / w) cells hw (by omega)
 have := Zfv w h (c % w) (c / w + 1) cells hw (by omega)
 have := Zfv w h (c % w - 1) (c / w) cells hw (by omega)
 split
 ·omega
 ·split
  ·omega
  ·split <;> omega
theorem chain_ev (w h d i : Int) (cells : List Int) (S : List (List Int)) (hw : 1 ≤ w) (hw7 : w ≤ 7) (hh : 1 ≤ h) (hh7 : h ≤ 7) (hl : (cells.length : Int) = w * h) (hb : w * h ≤ 49) (hp : 0 < w * h)
  (hd : 0 ≤ d ∧ d ≤ 3) (r : List (List Int)) : ∀ (n : Nat) (c : Int) (acc : List Int), c < w * h → Zir w h cells ((d + 2) % 4) n c → acc.length + n < 1000000 →
   Ev (fun k => Zam.l2 k d S (acc ++ Zdo w h cells ((d + 2) % 4) n c) 0 cells (cells.length : Int) i w h cells) r →
   Ev (fun k => Zam.l1 k d S acc c cells (cells.length : Int) i w h cells) r := by
 have ed : Int.tmod (wrap64 (d + 2)) 4 = (d + 2) % 4 := by
  rw [Zc1 (x := d + 2) (by omega) (by omega), Int.tmod_eq_emod_of_nonneg (by omega)]
 intro n
 induction n with
 | zero =>
  intro c acc hc hs ha hr
  rw [Zdo, List.append_nil] at hr
  refine Ev.shift hr (fun k => ?_)
  simp only [Zam.l1]
  have : c < 0 := hs
  rw [if_neg (by omega)]
 | succ n ih =>
  intro c acc hc hs ha hr
  by_cases h0 : c ≥ 0
  ·rw [Zdo, if_pos h0] at hr
   refine Ev.shift (g := fun k => Zam.l1 k d S (acc ++ [c]) (Zcp w h cells c ((d + 2) % 4)) cells (cells.length : Int) i w h cells) ?_ (fun k => ?_)
   ·refine ih _ _ (Ze6 w h c _ cells hw hp) ?_ (by rw [List.length_append, List.length_singleton]; omega) (by simpa using hr)
    rcases hs with hs | hs
    ·omega
    ·exact hs
   ·simp only [Zam.l1]
    rw [if_pos h0, if_pos (by omega), ed, Zfy w h c _ cells hw hw7 hh hh7 hl hb h0 hc]
    rfl
  ·rw [Zdo, if_neg h0, List.append_nil] at hr
   refine Ev.shift hr (fun k => ?_)
   simp only [Zam.l1]
   rw [if_neg h0]
def Zki (l : List Int) : Int := l.foldl Zg0 (rd l 0)
def insD (r : List Int) : List (List Int) → List (List Int)
 | [] => [r]
 | s :: S => if Zki s < Zki r then s :: insD r S else r :: s :: S
theorem ins_ev (w h d : Int) (i : Nat) (cells : List Int) (S : List (List Int)) (r : List Int) (hi : i < 1000000) (hS : S.length < 1000000) (hr0 : 0 < r.length ∧ r.length < 4294967296) (hn : ∀ s ∈ S, 0 < s.length ∧ s.length < 4294967296)
  (R : List (List Int)) : ∀ (m j : Nat), j + m = S.length →
   Ev (fun k => Zam.l0 k d (S.take j ++ insD r (S.drop j)) cells (cells.length : Int) ((i + 1 : Nat) : Int) w h cells) R →
   Ev (fun k => Zam.l2 k d S r (j : Int) cells (cells.length : Int) (i : Int) w h cells) R := by
 intro m
 induction m with
 | zero =>
  intro j hj hR
  rw [List.drop_eq_nil_of_le (by omega), insD, List.take_of_length_le (by omega)] at hR
  refine Ev.shift hR (fun k => ?_)
  simp only [Zam.l2, Option.bind_some, List.nil_append, Int.toNat_natCast]
  rw [if_neg (by omega), if_pos (by omega), if_pos (by omega), List.take_of_length_le (by omega), List.drop_eq_nil_of_le (by omega)]
  rw [if_pos (by simp only [List.length_nil]; omega), if_pos (by omega), if_pos (by simp only [List.length_append, List.length_singleton, List.length_nil]; omega), List.append_nil, Zcc i (by omega)]
 | succ m ih =>
  intro j hj hR
  have hlt : j < S.length := by omega
  have hs := hn S[j] (List.getElem_mem _)
  rw [Zcg S j hlt, insD] at hR
  have e1 := Zhk S[j] hs.1 hs.2
  have e2 := Zhk r hr0.1 hr0.2
  have body : Ev (fun k => (Zbp.f k S[j]).bind fun a => (Zbp.f k r).bind fun b => if a < b then Zam.l2 k d S r ((j + 1 : Nat) : Int) cells (cells.length : Int) (i : Int) w h cells else Zam.l0 k d (S.take j ++ [r] ++ S.drop j) cells (cells.length : Int) ((i + 1 : Nat) : Int) w h cells) R := by
   refine Ev.bind (g := fun k a => (Zbp.f k r).bind fun b => if a < b then Zam.l2 k d S r ((j + 1 : Nat) : Int) cells (cells.length : Int) (i : Int) w h cells else Zam.l0 k d (S.take j ++ [r] ++ S.drop j) cells (cells.length : Int) ((i + 1 : Nat) : Int) w h cells) e1 ?_
   refine Ev.bind (g := fun k b => if S[j].foldl Zg0 (rd S[j] 0) < b then Zam.l2 k d S r ((j + 1 : Nat) : Int) cells (cells.length : Int) (i : Int) w h cells else Zam.l0 k d (S.take j ++ [r] ++ S.drop j) cells (cells.length : Int) ((i + 1 : Nat) : Int) w h cells) e2 ?_
   by_cases hf : Zki S[j] < Zki r
   ·rw [if_pos hf] at hR
    refine Ev.congr (ih (j + 1) (by omega) ?_) (fun k => if_pos hf)
    rw [← List.take_append_getElem hlt, List.append_assoc]
    exact hR
   ·rw [if_neg hf] at hR
    refine Ev.congr ?_ (fun k => if_neg hf)
    rw [Zcg S j hlt, List.append_assoc]
    exact hR
  refine Ev.shift body (fun k => ?_)
  simp only [Zam.l2, Option.bind_some, List.nil_append, Int.toNat_natCast]
  rw [if_pos (by omega), if_pos (by omega), rdL_n S j hlt, Zcc j (by omega), Zcc i (by omega)]
  have t : (S.take j).length = j := by rw [List.length_take]; omega
  have u : (S.drop j).length = S.length - j := List.length_drop
  simp only [List.length_append, List.length_singleton, List.length_nil, t, u]
  rw [if_pos (show (j : Int) ≤ (S.length : Int) by omega), if_pos (show 0 + j < 5864062014805 by omega), if_pos (show j < 5864062014805 by omega), if_pos (show j + 1 + (S.length - j) < 5864062014805 by omega)]
theorem Zep (w h : Int) (cells : List Int) (d : Int) : ∀ (n : Nat) (c : Int), (Zdo w h cells d n c).length ≤ n
 | 0, _ => by simp [Zdo]
 | n + 1, c => by
  rw [Zdo]
  split
  ·have := Zep w h cells d n (Zcp w h cells c d)
   simp only [List.length_cons]; omega
  ·simp
theorem Zig (r x : List Int) : ∀ S, x ∈ insD r S ↔ x = r ∨ x ∈ S
 | [] => by simp [insD]
 | s :: S => by
  have := Zig r x S
  rw [insD]
  split
  ·simp only [List.mem_cons, this]
   constructor
   ·rintro (h | h | h) <;> simp [h]
   ·rintro (h | h | h) <;> simp [h]
  ·simp only [List.mem_cons]
theorem Zfh (r : List Int) : ∀ S, (insD r S).length = S.length + 1
 | [] => by simp [insD]
 | s :: S => by
  have := Zfh r S
  rw [insD]
  split
  ·simp only [List.length_cons]; omega
  ·simp only [List.length_cons]
def stepS (w h : Int) (cells : List Int) (d : Int) (S : List (List Int)) (i : Nat) : List (List Int) :=
 if rd cells i = 35 then S else if Zcp w h cells i d ≥ 0 then S else insD ((i : Int) :: Zdo w h cells ((d + 2) % 4) 8 (Zcp w h cells i ((d + 2) % 4))) S
def Zcu (w h : Int) (cells : List Int) (d : Int) : List (List Int) := (List.range cells.length).foldl (stepS w h cells d) []
theorem Zgl (w h d : Int) (cells : List Int) (hw : 1 ≤ w) (hw7 : w ≤ 7) (hh : 1 ≤ h) (hh7 : h ≤ 7) (hl : (cells.length : Int) = w * h) (hb : w * h ≤ 49) (hp : 0 < w * h) (hd : 0 ≤ d ∧ d ≤ 3)
  (hst : ∀ i : Nat, i < cells.length → Zir w h cells ((d + 2) % 4) 8 (Zcp w h cells i ((d + 2) % 4))) :
  Ev (fun k => Zam.f k w h cells d) (Zcu w h cells d) := by
 have ed : Int.tmod (wrap64 (d + 2)) 4 = (d + 2) % 4 := by
  rw [Zc1 (x := d + 2) (by omega) (by omega), Int.tmod_eq_emod_of_nonneg (by omega)]
 have main : ∀ (m i : Nat) (S : List (List Int)), i + m = cells.length → S.length ≤ i → (∀ s ∈ S, 0 < s.length ∧ s.length < 4294967296) →
   Ev (fun k => Zam.l0 k d S cells (cells.length : Int) (i : Int) w h cells) ((List.range' i m).foldl (stepS w h cells d) S) := by
  intro m
  induction m with
  | zero =>
   intro i S hi hS hn
   refine Ev.shift (g := fun _ => some S) (Ev.const rfl) (fun k => ?_)
   simp only [Zam.l0]
   rw [if_neg (by omega)]
  | succ m ih =>
   intro i S hi hS hn
   rw [List.range'_succ, List.foldl_cons]
   have hA := Zfy w h i d cells hw hw7 hh hh7 hl hb (by omega) (by omega)
   have hB := Zfy w h i ((d + 2) % 4) cells hw hw7 hh hh7 hl hb (by omega) (by omega)
   have skip : stepS w h cells d S i = S → Ev (fun k => Zam.j1 k d S (i : Int) cells (cells.length : Int) (i : Int) true w h cells) ((List.range' (i + 1) m).foldl (stepS w h cells d) (stepS w h cells d S i)) := by
    intro e
    rw [e]
    refine Ev.shift (ih (i + 1) S (by omega) (by omega) hn) (fun k => ?_)
    simp only [Zam.j1]
    rw [if_pos trivial, Zcc i (by omega)]
   by_cases h1 : rd cells i = 35
   ·refine Ev.shift (skip (by rw [stepS, if_pos h1])) (fun k => ?_)
    simp only [Zam.l0]
    rw [if_pos (by omega), if_pos (by omega), if_pos (by omega), if_pos h1]
   ·by_cases h2 : Zcp w h cells i d ≥ 0
    ·refine Ev.shift (skip (by rw [stepS, if_neg h1, if_pos h2])) (fun k => ?_)
     simp only [Zam.l0]
     rw [if_pos (by omega), if_pos (by omega), if_pos (by omega), if_neg h1, hA, Option.bind_some, decide_eq_true h2]
    ·refine Ev.shift (g := fun k => Zam.j1 k d S (i : Int) cells (cells.length : Int) (i : Int) false w h cells) ?_ (fun k => ?_)
     ·refine Ev.shift (g := fun k => Zam.l1 k d S [(i : Int)] (Zcp w h cells i ((d + 2) % 4)) cells (cells.length : Int) (i : Int) w h cells) ?_ (fun k => ?_)
      ·have hc := Zep w h cells ((d + 2) % 4) 8 (Zcp w h cells i ((d + 2) % 4))
       refine chain_ev w h d i cells S hw hw7 hh hh7 hl hb hp hd _ 8 _ _ (Ze6 w h i _ cells hw hp) (hst i (by omega)) (by simp) ?_
       refine ins_ev w h d i cells S _ (by omega) (by omega) ⟨by simp, by simp only [List.length_append, List.length_singleton]; omega⟩ hn _ S.length 0 (by omega) ?_
       have e : stepS w h cells d S i = insD ((i : Int) :: Zdo w h cells ((d + 2) % 4) 8 (Zcp w h cells i ((d + 2) % 4))) S := by
        rw [stepS, if_neg h1, if_neg h2]
       rw [e]
       have := ih (i + 1) (insD ((i : Int) :: Zdo w h cells ((d + 2) % 4) 8 (Zcp w h cells i ((d + 2) % 4))) S) (by omega) (by rw [Zfh]; omega) (by
        intro s hs
        rw [Zig] at hs
        rcases hs with hs | hs
        ·rw [hs]; simp only [List.length_cons]; omega
        ·exact hn s hs)
       simpa using this
      ·simp only [Zam.j1]
       rw [if_neg (by simp), ed, hB, Option.bind_some]
     ·simp only [Zam.l0]
      rw [if_pos (by omega), if_pos (by omega), if_pos (by omega), if_neg h1, hA, Option.bind_some, decide_eq_false h2]
 have := main cells.length 0 [] (by omega) (by simp) (by simp)
 refine Ev.congr (g := fun k => Zam.l0 k d [] cells (cells.length : Int) 0 w h cells) ?_ (fun k => rfl)
 rw [Zcu, List.range_eq_range']
 simpa using this
theorem Zeb (w h x y : Int) (cells : List Int) (hw : 1 ≤ w) : Zdd w h cells x y = -1 ∨ (0 ≤ x ∧ x < w ∧ 0 ≤ y ∧ y < h ∧ Zdd w h cells x y / w = y ∧ Zdd w h cells x y % w = x ∧ 0 ≤ Zdd w h cells x y) := by
 unfold Zdd
 by_cases hc : 0 ≤ x ∧ x < w ∧ 0 ≤ y ∧ y < h
 ·have hp := Zjl w h x y hw hc.1 hc.2.1 hc.2.2.1 hc.2.2.2
  rw [if_pos hc]
  by_cases h35 : rd cells (y * w + x) = 35
  ·rw [if_pos h35]; exact Or.inl rfl
  ·rw [if_neg h35]
   refine Or.inr ⟨hc.1, hc.2.1, hc.2.2.1, hc.2.2.2, ?_, ?_, hp.1⟩
   ·rw [Int.add_comm, Int.add_mul_ediv_right _ _ (by omega), Int.ediv_eq_zero_of_lt hc.1 hc.2.1, Int.zero_add]
   ·rw [Int.add_comm, Int.add_mul_emod_self_right, Int.emod_eq_of_lt hc.1 hc.2.1]
 ·rw [if_neg hc]; exact Or.inl rfl
def measD (w h c d : Int) : Int := if d = 0 then c / w else if d = 1 then w - 1 - c % w else if d = 2 then h - 1 - c / w else c % w
theorem Ziq (w h d : Int) (cells : List Int) (hw : 1 ≤ w) : ∀ (n : Nat) (c : Int), (c < 0 ∨ (0 ≤ measD w h c d ∧ measD w h c d < n)) → Zir w h cells d n c
 | 0, c => by
  intro hc
  show c < 0
  omega
 | n + 1, c => by
  intro hc
  show c < 0 ∨ Zir w h cells d n (Zcp w h cells c d)
  rcases hc with hc | hc
  ·exact Or.inl hc
  ·refine Or.inr (Ziq w h d cells hw n _ ?_)
   unfold Zcp measD at *
   by_cases e0 : d = 0
   ·simp only [if_pos e0] at hc ⊢
    rcases Zeb w h (c % w) (c / w - 1) cells hw with q | q <;> omega
   ·by_cases e1 : d = 1
    ·simp only [if_neg e0, if_pos e1] at hc ⊢
     rcases Zeb w h (c % w + 1) (c / w) cells hw with q | q <;> omega
    ·by_cases e2 : d = 2
     ·simp only [if_neg e0, if_neg e1, if_pos e2] at hc ⊢
      rcases Zeb w h (c % w) (c / w + 1) cells hw with q | q <;> omega
     ·simp only [if_neg e0, if_neg e1, if_neg e2] at hc ⊢
      rcases Zeb w h (c % w - 1) (c / w) cells hw with q | q <;> omega
theorem measD_le (w h c d : Int) (hw : 1 ≤ w) (hw7 : w ≤ 7) (hh : 1 ≤ h) (hh7 : h ≤ 7) (hc : 0 ≤ c) (hc2 : c < w * h) : 0 ≤ measD w h c d ∧ measD w h c d < 8 := by
 have m0 : 0 ≤ c % w := Int.emod_nonneg _ (by omega)
 have m1 : c % w < w := Int.emod_lt_of_pos _ (by omega)
 have d0 : 0 ≤ c / w := Int.ediv_nonneg hc (by omega)
 have d1 : c / w < h := Int.ediv_lt_of_lt_mul (by omega) (by rw [Int.mul_comm]; exact hc2)
 unfold measD
 split
 ·omega
 ·split
  ·omega
  ·split <;> omega
theorem Zhh (w h d : Int) (cells : List Int) (hw : 1 ≤ w) (hw7 : w ≤ 7) (hh : 1 ≤ h) (hh7 : h ≤ 7) (hl : (cells.length : Int) = w * h) (hb : w * h ≤ 49) (hp : 0 < w * h) (hd : 0 ≤ d ∧ d ≤ 3) :
  Ev (fun k => Zam.f k w h cells d) (Zcu w h cells d) := by
 refine Zgl w h d cells hw hw7 hh hh7 hl hb hp hd (fun i hi => Ziq w h _ cells hw 8 _ ?_)
 by_cases h0 : Zcp w h cells i ((d + 2) % 4) < 0
 ·exact Or.inl h0
 ·exact Or.inr (measD_le w h _ _ hw hw7 hh hh7 (by omega) (Ze6 w h i _ cells hw hp))
def runD (w h : Int) (cells : List Int) (d : Int) (i : Nat) : List Int := (i : Int) :: Zdo w h cells ((d + 2) % 4) 8 (Zcp w h cells i ((d + 2) % 4))
def headD (w h : Int) (cells : List Int) (d : Int) (i : Nat) : Prop := rd cells i ≠ 35 ∧ Zcp w h cells i d < 0
theorem Zka (w h : Int) (cells : List Int) (d : Int) (x : List Int) : ∀ (L : List Nat) (S : List (List Int)), x ∈ L.foldl (stepS w h cells d) S ↔ x ∈ S ∨ ∃ i ∈ L, headD w h cells d i ∧ x = runD w h cells d i
 | [], S => by simp
 | i :: L, S => by
  rw [List.foldl_cons, Zka w h cells d x L]
  have e : x ∈ stepS w h cells d S i ↔ x ∈ S ∨ (headD w h cells d i ∧ x = runD w h cells d i) := by
   unfold stepS headD
   by_cases h1 : rd cells i = 35
   ·rw [if_pos h1]; simp [h1]
   ·rw [if_neg h1]
    by_cases h2 : Zcp w h cells i d ≥ 0
    ·rw [if_pos h2]
     constructor
     ·exact Or.inl
     ·rintro (q | q)
      ·exact q
      ·omega
    ·rw [if_neg h2, Zig]
     constructor
     ·rintro (q | q)
      ·exact Or.inr ⟨⟨h1, by omega⟩, q⟩
      ·exact Or.inl q
     ·rintro (q | q)
      ·exact Or.inr q
      ·exact Or.inl q.2
  rw [e]
  simp only [List.mem_cons, exists_eq_or_imp]
  exact or_assoc
theorem Zed (w h : Int) (cells : List Int) (d : Int) (x : List Int) : x ∈ Zcu w h cells d ↔ ∃ i < cells.length, headD w h cells d i ∧ x = runD w h cells d i := by
 rw [Zcu, Zka]
 simp
theorem Zi8 (w h : Int) (cells : List Int) (d : Int) (hw : 1 ≤ w) (hp : 0 < w * h) (hl : (cells.length : Int) = w * h) : ∀ (n : Nat) (c : Int), c < w * h → ∀ k ∈ Zdo w h cells d n c, 0 ≤ k ∧ k < cells.length
 | 0, _, _, k, hk => by simp [Zdo] at hk
 | n + 1, c, hc, k, hk => by
  rw [Zdo] at hk
  split at hk
  ·rcases List.mem_cons.1 hk with q | q
   ·subst q; omega
   ·exact Zi8 w h cells d hw hp hl n _ (Ze6 w h c d cells hw hp) k q
  ·simp at hk
theorem Zh2 (w h : Int) (cells : List Int) (d : Int) (hw : 1 ≤ w) (hp : 0 < w * h) (hl : (cells.length : Int) = w * h) : InC cells (Zcu w h cells d) := by
 intro s hs k hk
 rw [Zed] at hs
 obtain ⟨i, hi, _, rfl⟩ := hs
 rcases List.mem_cons.1 hk with q | q
 ·subst q; omega
 ·exact Zi8 w h cells _ hw hp hl 8 _ (Ze6 w h i _ cells hw hp) k q
theorem Zeq (w h : Int) (cells : List Int) (d : Int) : ∀ s ∈ Zcu w h cells d, s.length ≤ 9 := by
 intro s hs
 rw [Zed] at hs
 obtain ⟨i, hi, _, rfl⟩ := hs
 have := Zep w h cells ((d + 2) % 4) 8 (Zcp w h cells i ((d + 2) % 4))
 simp only [runD, List.length_cons]; omega
def udB (d : Int) : Bool := d == 117 || d == 100
def rvB (d : Int) : Bool := d == 114 || d == 100
def isD (d : Int) : Prop := d = 117 ∨ d = 114 ∨ d = 100 ∨ d = 108
def numL (w : Nat) (d : Int) (i k : Nat) : Int := if udB d = true then ((k * w + i : Nat) : Int) else ((i * w + k : Nat) : Int)
def longL (w h : Nat) (d : Int) : Nat := if udB d = true then h else w
def manyL (w h : Nat) (d : Int) : Nat := if udB d = true then w else h
def finL (d : Int) (l : List Int) : List Int := if rvB d = true then l.reverse else l
def lineL (w h : Nat) (d : Int) (i : Nat) : List Int := finL d ((List.range (longL w h d)).map (numL w d i))
def Zc3 (w h : Nat) (d : Int) : List (List Int) := (List.range (manyL w h d)).map (lineL w h d)
theorem lines_ev (w h : Nat) (hw : w ≤ 1000) (hh : h ≤ 1000) (l : List Int) (d : Int) (hd : isD d) : Ev (fun k => Zar.f k w h l d) (Zc3 w h d) := by
 have bd : ∀ a b : Nat, a ≤ 1000 → b ≤ 1000 → a * b ≤ 1000000 := fun a b ha hb => Nat.mul_le_mul ha hb
 have hud : ∀ (x : Nat), longL w h d = x → x ≤ 1000 := by
  intro x hx; unfold longL at hx; split at hx <;> omega
 have hmd : manyL w h d ≤ 1000 := by
  unfold manyL; split <;> omega
 have num : ∀ i k : Nat, i ≤ 1000 → k ≤ 1000 → ∀ (S : List (List Int)) (acc : List Int) (r : List (List Int)) (many long : Int), acc.length ≤ 1000 →
   Ev (fun n => Zar.l1 n d S long i (acc ++ [numL w d i k]) many i long ((k + 1 : Nat) : Int) w h l) r →
   Ev (fun n => Zar.j4 n d S long i acc k many i long k (udB d) w h l) r := by
  intro i k hi hk S acc r many long ha hr
  have b1 := bd k w hk hw
  have b2 := bd i w hi hw
  refine Ev.shift hr (fun n => ?_)
  simp only [Zar.j4, Zb4.f, Option.bind_some]
  rw [Zcc k (by omega), if_pos (show acc.length < 17592186044416 by omega), if_pos (show acc.length < 17592186044416 by omega)]
  unfold numL
  have e1 : wrap64 (wrap64 ((k : Int) * (w : Int)) + (i : Int)) = ((k * w + i : Nat) : Int) := by
   have c : ((k : Int) * (w : Int)) = ((k * w : Nat) : Int) := by simp
   rw [c, Zc1 (x := ((k * w : Nat) : Int)) (by omega) (by omega), Zc1 (by omega) (by omega)]; omega
  have e2 : wrap64 (wrap64 ((i : Int) * (w : Int)) + (k : Int)) = ((i * w + k : Nat) : Int) := by
   have c : ((i : Int) * (w : Int)) = ((i * w : Nat) : Int) := by simp
   rw [c, Zc1 (x := ((i * w : Nat) : Int)) (by omega) (by omega), Zc1 (by omega) (by omega)]; omega
  rw [e1, e2]
  cases udB d <;> rfl
 have inner : ∀ (i : Nat) (hi : i ≤ 1000) (S : List (List Int)) (hS : S.length ≤ 1000000) (r : List (List Int)) (m j : Nat) (acc : List Int), j + m = longL w h d → acc.length ≤ j →
   Ev (fun n => Zar.l0 n d (S ++ [finL d (acc ++ (List.range' j m).map (numL w d i))]) (longL w h d : Nat) (manyL w h d : Nat) ((i + 1 : Nat) : Int) w h l) r →
   Ev (fun n => Zar.l1 n d S (longL w h d : Nat) i acc (manyL w h d : Nat) i (longL w h d : Nat) j w h l) r := by
  intro i hi S hS r m
  have hL := hud _ rfl
  induction m with
  | zero =>
   intro j acc hj ha hr
   refine Ev.shift hr (fun n => ?_)
   simp only [Zar.l1, List.range'_zero, List.map_nil, List.append_nil]
   rw [if_neg (by omega), Zcc i (by omega), if_pos (show S.length < 5864062014805 by omega)]
   unfold Zbk.f finL rvB
   rw [if_pos (show acc.length ≤ 9223372036854775807 by omega)]
   have hS' : S.length < 5864062014805 := by omega
   rcases hd with rfl | rfl | rfl | rfl <;> simp [hS']
  | succ m ih =>
   intro j acc hj ha hr
   refine Ev.shift (g := fun n => Zar.j4 n d S (longL w h d : Nat) i acc j (manyL w h d : Nat) i (longL w h d : Nat) j (udB d) w h l) ?_ (fun n => ?_)
   ·refine num i j hi (by omega) S acc r _ _ (by omega) ?_
    refine ih (j + 1) (acc ++ [numL w d i j]) (by omega) (by simp; omega) ?_
    rw [List.range'_succ, List.map_cons] at hr
    simpa using hr
   ·simp only [Zar.l1]
    rw [if_pos (by omega)]
    unfold udB
    by_cases e : d = 117
    ·rw [if_pos e, e]; rfl
    ·rw [if_neg e, show (d == 117) = false by simpa using e, Bool.false_or]
 have outer : ∀ (m i : Nat) (S : List (List Int)), i + m = manyL w h d → S.length ≤ i →
   Ev (fun n => Zar.l0 n d S (longL w h d : Nat) (manyL w h d : Nat) i w h l) (S ++ (List.range' i m).map (lineL w h d)) := by
  intro m
  induction m with
  | zero =>
   intro i S hi hS
   refine Ev.shift (g := fun _ => some S) (Ev.const (by simp)) (fun n => ?_)
   simp only [Zar.l0]
   rw [if_neg (by omega)]
  | succ m ih =>
   intro i S hi hS
   refine Ev.shift (g := fun n => Zar.l1 n d S (longL w h d : Nat) i [] (manyL w h d : Nat) i (longL w h d : Nat) (0 : Nat) w h l) ?_ (fun n => ?_)
   ·refine inner i (by omega) S (by omega) _ (longL w h d) 0 [] (by omega) (by simp) ?_
    have := ih (i + 1) (S ++ [lineL w h d i]) (by omega) (by simp; omega)
    rw [List.range'_succ, List.map_cons]
    rw [List.nil_append, ← List.range_eq_range']
    simpa [lineL] using this
   ·simp only [Zar.l0]
    rw [if_pos (by omega)]
    rfl
 have start := outer (manyL w h d) 0 [] (by omega) (by simp)
 rw [← List.range_eq_range'] at start
 have start2 : Ev (fun n => Zar.j1 n d [] (manyL w h d : Nat) (longL w h d : Nat) w h l) (Zc3 w h d) := Ev.shift start (fun n => by simp only [Zar.j1]; rfl)
 have start3 : Ev (fun n => Zar.j0 n d [] (h : Int) (w : Int) (udB d) w h l) (Zc3 w h d) := by
  refine Ev.shift start2 (fun n => ?_)
  simp only [Zar.j0]
  unfold manyL longL
  cases udB d <;> rfl
 refine Ev.congr start3 (fun n => ?_)
 unfold Zar.f udB
 simp only [Option.bind_some]
 by_cases e : d = 117
 ·rw [if_pos e, e]; rfl
 ·rw [if_neg e, show (d == 117) = false by simpa using e, Bool.false_or]
def Zc8 (cells : List Int) : List Int → List Int → List (List Int)
 | acc, [] => if acc = [] then [] else [acc]
 | acc, k :: ks => if rd cells k = 35 then (if acc = [] then Zc8 cells [] ks else acc :: Zc8 cells [] ks) else Zc8 cells (acc ++ [k]) ks
def nwB (cells : List Int) (k : Int) : Bool := rd cells k != 35
def Zff (cells : List Int) : Bool → List Int → List (List Int)
 | _, [] => []
 | b, k :: ks => if rd cells k = 35 then Zff cells false ks else if b = true then Zff cells true ks else (k :: ks.takeWhile (nwB cells)) :: Zff cells true ks
theorem Zit (cells : List Int) : ∀ (l acc : List Int), Zc8 cells acc l = if acc = [] then Zff cells false l else (acc ++ l.takeWhile (nwB cells)) :: Zff cells true l
 | [], acc => by
  by_cases h : acc = [] <;> simp [Zc8, Zff, h]
 | k :: ks, acc => by
  by_cases h : acc = [] <;> by_cases hk : rd cells k = 35 <;> simp [Zc8, Zff, h, hk, Zit cells ks, List.takeWhile_cons, nwB]
theorem Zd1 (cells : List Int) : ∀ (l acc : List Int), (Zc8 cells acc l).length ≤ l.length + 1
 | [], acc => by
  by_cases h : acc = [] <;> simp [Zc8, h]
 | k :: ks, acc => by
  have h1 := Zd1 cells ks []
  have h2 := Zd1 cells ks (acc ++ [k])
  rw [Zc8]
  split
  ·split
   ·simp only [List.length_cons]; omega
   ·simp only [List.length_cons]; omega
  ·simp only [List.length_cons]; omega
def runsL (cells : List Int) (L : List (List Int)) : List (List Int) := L.flatMap (Zc8 cells [])
theorem Zhi (w h : Int) (cells : List Int) (L : List (List Int)) (hL : L.length ≤ 1000) (hl : ∀ line ∈ L, line.length ≤ 1000) (hin : InC cells L) (R : List (List Int))
  (hR : Za7.f (runsL cells L) = some R) : Ev (fun n => Zat.l0 n [] L (L.length : Int) 0 w h cells) R := by
 have inner : ∀ (i : Nat) (hi : i < L.length) (r : List (List Int)) (m j : Nat) (S : List (List Int)) (acc : List Int), j + m = L[i].length → S.length + m < 5000000 → acc.length ≤ j →
   Ev (fun n => Zat.l0 n (S ++ Zc8 cells acc (L[i].drop j)) L (L.length : Int) ((i + 1 : Nat) : Int) w h cells) r →
   Ev (fun n => Zat.l1 n S acc L (L.length : Int) i L[i] (L[i].length : Int) j w h cells) r := by
  intro i hi r m
  have hli := hl L[i] (List.getElem_mem _)
  induction m with
  | zero =>
   intro j S acc hj hS ha hr
   refine Ev.shift hr (fun n => ?_)
   simp only [Zat.l1]
   rw [if_neg (by omega), Zcc i (by omega), List.drop_eq_nil_of_le (by omega), Zc8, if_pos (show S.length < 5864062014805 by omega)]
   by_cases e : acc = []
   ·rw [if_pos e, e, if_neg (by simp), List.append_nil]
   ·rw [if_neg e, if_pos (by have := List.length_pos_iff.2 e; omega)]
  | succ m ih =>
   intro j S acc hj hS ha hr
   have hlt : j < L[i].length := by omega
   have hc := hin L[i] (List.getElem_mem _) L[i][j] (List.getElem_mem _)
   rw [Zcg _ j hlt, Zc8] at hr
   by_cases h35 : rd cells L[i][j] = 35
   ·rw [if_pos h35] at hr
    by_cases e : acc = []
    ·rw [if_pos e] at hr
     refine Ev.shift (ih (j + 1) S [] (by omega) (by omega) (by simp) hr) (fun n => ?_)
     simp only [Zat.l1]
     rw [if_pos (by omega), if_pos (by omega), if_pos (by omega), rd_n _ _ hlt, if_pos hc.1, if_pos hc.2, if_pos h35, e, if_neg (by simp), Zcc j (by omega)]
    ·rw [if_neg e] at hr
     refine Ev.shift (ih (j + 1) (S ++ [acc]) [] (by omega) (by rw [List.length_append, List.length_singleton]; omega) (by simp) (by simpa using hr)) (fun n => ?_)
     simp only [Zat.l1]
     rw [if_pos (by omega), if_pos (by omega), if_pos (by omega), rd_n _ _ hlt, if_pos hc.1, if_pos hc.2, if_pos h35, if_pos (by have := List.length_pos_iff.2 e; omega), if_pos (show S.length < 5864062014805 by omega), Zcc j (by omega)]
   ·rw [if_neg h35] at hr
    refine Ev.shift (ih (j + 1) S (acc ++ [L[i][j]]) (by omega) (by omega) (by rw [List.length_append, List.length_singleton]; omega) hr) (fun n => ?_)
    simp only [Zat.l1]
    rw [if_pos (by omega), if_pos (by omega), if_pos (by omega), rd_n _ _ hlt, if_pos hc.1, if_pos hc.2, if_neg h35, if_pos (show acc.length < 17592186044416 by omega), Zcc j (by omega)]
 have outer : ∀ (m i : Nat) (S : List (List Int)), i + m = L.length → S.length ≤ i * 1001 → S ++ runsL cells (L.drop i) = runsL cells L → Ev (fun n => Zat.l0 n S L (L.length : Int) (i : Int) w h cells) R := by
  intro m
  induction m with
  | zero =>
   intro i S hi hS he
   rw [List.drop_eq_nil_of_le (by omega), runsL, List.flatMap_nil, List.append_nil] at he
   rw [← he] at hR
   refine Ev.shift (g := fun _ => some R) (Ev.const rfl) (fun n => ?_)
   simp only [Zat.l0]
   rw [if_neg (by omega), hR]
  | succ m ih =>
   intro i S hi hS he
   have hlt : i < L.length := by omega
   have hli := hl L[i] (List.getElem_mem _)
   refine Ev.shift (g := fun n => Zat.l1 n S [] L (L.length : Int) i L[i] (L[i].length : Int) (0 : Nat) w h cells) ?_ (fun n => ?_)
   ·refine inner i hlt _ L[i].length 0 S [] (Nat.zero_add _) (by omega) (by simp) ?_
    have := Zd1 cells L[i] []
    have := ih (i + 1) (S ++ Zc8 cells [] L[i]) (by omega) (by rw [List.length_append]; omega) (by rw [← he, Zcg L i hlt]; simp only [runsL, List.flatMap_cons, List.append_assoc])
    simpa using this
   ·simp only [Zat.l0]
    rw [if_pos (by omega), if_pos (by omega), if_pos (by omega), rdL_n L i hlt]
    rfl
 have := outer L.length 0 [] (by simp) (by simp) (by simp)
 simpa using this
def dI (d : Int) : Int := if d = 117 then 0 else if d = 114 then 1 else if d = 100 then 2 else 3
def wallW (cells : List Int) (c : Int) : Int := if rd cells c = 35 then -1 else c
def posL (w h : Nat) (d : Int) (i k : Nat) : Int := numL w d i (if rvB d = true then longL w h d - 1 - k else k)
theorem Zeo (w h : Nat) (d : Int) (i : Nat) : lineL w h d i = (List.range (longL w h d)).map (posL w h d i) := by
 unfold lineL finL posL
 cases rvB d
 ·simp
 ·simp only [if_true]
  apply List.ext_getElem
  ·simp
  ·intro n h1 h2
   simp [List.getElem_reverse]
theorem Zez (w i k : Nat) (hi : i < w) : ((k * w + i : Nat) : Int) % (w : Int) = i ∧ ((k * w + i : Nat) : Int) / (w : Int) = k := by
 constructor
 ·have : (k * w + i) % w = i := by rw [Nat.add_comm, Nat.add_mul_mod_self_right, Nat.mod_eq_of_lt hi]
  omega
 ·have : (k * w + i) / w = k := by rw [Nat.add_comm, Nat.add_mul_div_right _ _ (by omega), Nat.div_eq_of_lt hi, Nat.zero_add]
  omega
theorem Zdx (w h : Nat) (cells : List Int) (x y : Int) (xn yn : Nat) (ex : x = xn) (ey : y = yn) (hx : xn < w) (hy : yn < h) : Zdd w h cells x y = wallW cells ((yn * w + xn : Nat) : Int) := by
 subst ex ey
 have e : ((yn : Int) * (w : Int) + (xn : Int)) = ((yn * w + xn : Nat) : Int) := by simp
 unfold Zdd wallW
 rw [if_pos (by omega), e]
theorem Zdn (w h : Nat) (cells : List Int) (x y : Int) (hx : x < 0 ∨ (w : Int) ≤ x ∨ y < 0 ∨ (h : Int) ≤ y) : Zdd w h cells x y = -1 := by
 unfold Zdd
 rw [if_neg (by omega)]
theorem Zkn (w h : Int) (cells : List Int) (c : Int) : Zcp w h cells c 0 = Zdd w h cells (c % w) (c / w - 1) := by simp [Zcp]
theorem Zkm (w h : Int) (cells : List Int) (c : Int) : Zcp w h cells c 1 = Zdd w h cells (c % w + 1) (c / w) := by simp [Zcp]
theorem Zkl (w h : Int) (cells : List Int) (c : Int) : Zcp w h cells c 2 = Zdd w h cells (c % w) (c / w + 1) := by simp [Zcp]
theorem Zkk (w h : Int) (cells : List Int) (c : Int) : Zcp w h cells c 3 = Zdd w h cells (c % w - 1) (c / w) := by simp [Zcp]
theorem Zf3 (w h : Nat) (cells : List Int) (d : Int) (hd : isD d) (i k : Nat) (hi : i < manyL w h d) (hk : k < longL w h d) :
  Zcp w h cells (posL w h d i k) (dI d) = (if k = 0 then -1 else wallW cells (posL w h d i (k - 1))) ∧
  Zcp w h cells (posL w h d i k) ((dI d + 2) % 4) = (if k + 1 < longL w h d then wallW cells (posL w h d i (k + 1)) else -1) := by
 rcases hd with rfl | rfl | rfl | rfl
 ·have e1 : manyL w h 117 = w := rfl
  have e2 : longL w h 117 = h := rfl
  have e3 : ∀ k, posL w h 117 i k = ((k * w + i : Nat) : Int) := fun k => rfl
  rw [e1] at hi; rw [e2] at hk
  have m := Zez w i k hi
  simp only [e2, e3]
  rw [show dI 117 = 0 from rfl, show ((0 : Int) + 2) % 4 = 2 from rfl]
  simp only [Zkn, Zkm, Zkl, Zkk, m.1, m.2]
  constructor
  ·by_cases h0 : k = 0
   ·rw [if_pos h0]; exact Zdn _ _ _ _ _ (by omega)
   ·rw [if_neg h0]; exact Zdx _ _ _ _ _ i (k - 1) rfl (by omega) hi (by omega)
  ·by_cases h0 : k + 1 < h
   ·rw [if_pos h0]; exact Zdx _ _ _ _ _ i (k + 1) rfl (by omega) hi (by omega)
   ·rw [if_neg h0]; exact Zdn _ _ _ _ _ (by omega)
 ·have e1 : manyL w h 114 = h := rfl
  have e2 : longL w h 114 = w := rfl
  have e3 : ∀ k, posL w h 114 i k = ((i * w + (w - 1 - k) : Nat) : Int) := fun k => rfl
  rw [e1] at hi; rw [e2] at hk
  have m := Zez w (w - 1 - k) i (by omega)
  simp only [e2, e3]
  rw [show dI 114 = 1 from rfl, show ((1 : Int) + 2) % 4 = 3 from rfl]
  simp only [Zkn, Zkm, Zkl, Zkk, m.1, m.2]
  constructor
  ·by_cases h0 : k = 0
   ·rw [if_pos h0]; exact Zdn _ _ _ _ _ (by omega)
   ·rw [if_neg h0]; exact Zdx _ _ _ _ _ (w - 1 - (k - 1)) i (by omega) rfl (by omega) hi
  ·by_cases h0 : k + 1 < w
   ·rw [if_pos h0]; exact Zdx _ _ _ _ _ (w - 1 - (k + 1)) i (by omega) rfl (by omega) hi
   ·rw [if_neg h0]; exact Zdn _ _ _ _ _ (by omega)
 ·have e1 : manyL w h 100 = w := rfl
  have e2 : longL w h 100 = h := rfl
  have e3 : ∀ k, posL w h 100 i k = (((h - 1 - k) * w + i : Nat) : Int) := fun k => rfl
  rw [e1] at hi; rw [e2] at hk
  have m := Zez w i (h - 1 - k) hi
  simp only [e2, e3]
  rw [show dI 100 = 2 from rfl, show ((2 : Int) + 2) % 4 = 0 from rfl]
  simp only [Zkn, Zkm, Zkl, Zkk, m.1, m.2]
  constructor
  ·by_cases h0 : k = 0
   ·rw [if_pos h0]; exact Zdn _ _ _ _ _ (by omega)
   ·rw [if_neg h0]; exact Zdx _ _ _ _ _ i (h - 1 - (k - 1)) rfl (by omega) hi (by omega)
  ·by_cases h0 : k + 1 < h
   ·rw [if_pos h0]; exact Zdx _ _ _ _ _ i (h - 1 - (k + 1)) rfl (by omega) hi (by omega)
   ·rw [if_neg h0]; exact Zdn _ _ _ _ _ (by omega)
 ·have e1 : manyL w h 108 = h := rfl
  have e2 : longL w h 108 = w := rfl
  have e3 : ∀ k, posL w h 108 i k = ((i * w + k : Nat) : Int) := fun k => rfl
  rw [e1] at hi; rw [e2] at hk
  have m := Zez w k i hk
  simp only [e2, e3]
  rw [show dI 108 = 3 from rfl, show ((3 : Int) + 2) % 4 = 1 from rfl]
  simp only [Zkn, Zkm, Zkl, Zkk, m.1, m.2]
  constructor
  ·by_cases h0 : k = 0
   ·rw [if_pos h0]; exact Zdn _ _ _ _ _ (by omega)
   ·rw [if_neg h0]; exact Zdx _ _ _ _ _ (k - 1) i (by omega) rfl (by omega) hi
  ·by_cases h0 : k + 1 < w
   ·rw [if_pos h0]; exact Zdx _ _ _ _ _ (k + 1) i (by omega) rfl (by omega) hi
   ·rw [if_neg h0]; exact Zdn _ _ _ _ _ (by omega)
theorem Zem (w h : Nat) (d : Int) (i k : Nat) : 0 ≤ posL w h d i k := by
 unfold posL numL; split <;> omega
theorem Zgk (cells : List Int) (c : Int) (hc : 0 ≤ c) : wallW cells c < 0 ↔ rd cells c = 35 := by
 unfold wallW; split <;> omega
def headI (w h : Int) (cells : List Int) (d : Int) (c : Int) : Bool := rd cells c != 35 && decide (Zcp w h cells c d < 0)
def runI (w h : Int) (cells : List Int) (d : Int) (c : Int) : List Int := c :: Zdo w h cells ((d + 2) % 4) 8 (Zcp w h cells c ((d + 2) % 4))
theorem Zk5 (w h : Nat) (cells : List Int) (d : Int) (hd : isD d) (i : Nat) (hi : i < manyL w h d) : ∀ (m j n : Nat), j + 1 + m = longL w h d → m ≤ n →
  Zdo w h cells ((dI d + 2) % 4) n (Zcp w h cells (posL w h d i j) ((dI d + 2) % 4)) = ((List.range' (j + 1) m).map (posL w h d i)).takeWhile (nwB cells) := by
 intro m
 induction m with
 | zero =>
  intro j n hj hn
  rw [(Zf3 w h cells d hd i j hi (by omega)).2, if_neg (by omega)]
  cases n <;> simp [Zdo]
 | succ m ih =>
  intro j n hj hn
  rw [(Zf3 w h cells d hd i j hi (by omega)).2, if_pos (by omega), List.range'_succ, List.map_cons, List.takeWhile_cons]
  obtain ⟨n, rfl⟩ : ∃ q, n = q + 1 := ⟨n - 1, by omega⟩
  rw [Zdo]
  have hp := Zem w h d i (j + 1)
  have hw := Zgk cells _ hp
  by_cases h35 : rd cells (posL w h d i (j + 1)) = 35
  ·rw [if_neg (by have := hw.2 h35; omega)]
   simp [nwB, h35]
  ·have e : wallW cells (posL w h d i (j + 1)) = posL w h d i (j + 1) := by unfold wallW; rw [if_neg h35]
   rw [e, if_pos (by omega), ih (j + 1) n (by omega) (by omega)]
   simp [nwB, h35]
theorem Zkz (w h : Nat) (hw : w ≤ 8) (hh : h ≤ 8) (cells : List Int) (d : Int) (hd : isD d) (i : Nat) (hi : i < manyL w h d) : ∀ (m j : Nat) (b : Bool), j + m = longL w h d → (b = true ↔ 0 < j ∧ rd cells (posL w h d i (j - 1)) ≠ 35) →
  Zff cells b ((List.range' j m).map (posL w h d i)) = (((List.range' j m).map (posL w h d i)).filter (headI w h cells (dI d))).map (runI w h cells (dI d)) := by
 have hlong : longL w h d ≤ 8 := by unfold longL; split <;> omega
 intro m
 induction m with
 | zero => intro j b hj hb; simp [Zff]
 | succ m ih =>
  intro j b hj hb
  have la := (Zf3 w h cells d hd i j hi (by omega)).1
  rw [List.range'_succ, List.map_cons, Zff, List.filter_cons]
  by_cases h35 : rd cells (posL w h d i j) = 35
  ·rw [if_pos h35, ih (j + 1) false (by omega) (by simp [h35]), if_neg (by simp [headI, h35])]
  ·rw [if_neg h35]
   have ht := ih (j + 1) true (by omega) (by simp [h35])
   by_cases hb1 : b = true
   ·have := hb.1 hb1
    rw [if_pos hb1, ht, if_neg ?_]
    have hp := Zem w h d i (j - 1)
    have hw2 := Zgk cells _ hp
    rw [if_neg (by omega)] at la
    simp only [headI, la, Bool.and_eq_true, decide_eq_true_eq, not_and]
    intro _ hlt
    exact this.2 (hw2.1 hlt)
   ·rw [if_neg hb1, ht, if_pos ?_, List.map_cons]
    ·congr 1
     rw [runI, Zk5 w h cells d hd i hi m j 8 (by omega) (by omega)]
    ·have : Zcp w h cells (posL w h d i j) (dI d) < 0 := by
      rw [la]
      by_cases h0 : j = 0
      ·rw [if_pos h0]; omega
      ·rw [if_neg h0]
       refine (Zgk cells _ (Zem _ _ _ _ _)).2 ?_
       by_cases q : rd cells (posL w h d i (j - 1)) = 35
       ·exact q
       ·exact absurd (hb.2 ⟨by omega, q⟩) hb1
     simp [headI, h35, this]
theorem runsL_eq (w h : Nat) (hw : w ≤ 8) (hh : h ≤ 8) (cells : List Int) (d : Int) (hd : isD d) : runsL cells (Zc3 w h d) = ((Zc3 w h d).flatten.filter (headI w h cells (dI d))).map (runI w h cells (dI d)) := by
 have one : ∀ i, i < manyL w h d → Zc8 cells [] (lineL w h d i) = ((lineL w h d i).filter (headI w h cells (dI d))).map (runI w h cells (dI d)) := by
  intro i hi
  rw [Zit, if_pos rfl, Zeo, List.range_eq_range']
  exact Zkz w h hw hh cells d hd i hi _ 0 false (by omega) (by simp)
 have all : ∀ L : List (List Int), (∀ l ∈ L, Zc8 cells [] l = (l.filter (headI w h cells (dI d))).map (runI w h cells (dI d))) → runsL cells L = (L.flatten.filter (headI w h cells (dI d))).map (runI w h cells (dI d)) := by
  intro L
  induction L with
  | nil => intro _; rfl
  | cons l L ih =>
   intro h1
   have := ih (fun l hl => h1 l (List.mem_cons_of_mem _ hl))
   rw [runsL] at this ⊢
   rw [List.flatMap_cons, List.flatten_cons, List.filter_append, List.map_append, this, h1 l List.mem_cons_self]
 refine all _ (fun l hl => ?_)
 obtain ⟨i, hi, rfl⟩ := List.mem_map.1 hl
 exact one i (List.mem_range.1 hi)
theorem Zjm (w h : Nat) (d : Int) (k : Nat) (hk : k < longL w h d) : (if rvB d = true then longL w h d - 1 - k else k) < longL w h d := by
 split <;> omega
theorem Zj8 (w h : Nat) (d : Int) (i k i2 k2 : Nat) (hi : i < manyL w h d) (hk : k < longL w h d) (hi2 : i2 < manyL w h d) (hk2 : k2 < longL w h d) (e : posL w h d i k = posL w h d i2 k2) : i = i2 ∧ k = k2 := by
 have t1 := Zjm w h d k hk
 have t2 := Zjm w h d k2 hk2
 have key : i = i2 ∧ (if rvB d = true then longL w h d - 1 - k else k) = (if rvB d = true then longL w h d - 1 - k2 else k2) := by
  unfold posL numL at e
  generalize (if rvB d = true then longL w h d - 1 - k else k) = a at *
  generalize (if rvB d = true then longL w h d - 1 - k2 else k2) = b at *
  unfold manyL longL at *
  cases hu : udB d
  ·simp only [hu, Bool.false_eq_true, if_false] at *
   have m1 := Zez w a i t1
   have m2 := Zez w b i2 t2
   rw [e] at m1
   omega
  ·simp only [hu, if_true] at *
   have m1 := Zez w i a hi
   have m2 := Zez w i2 b hi2
   rw [e] at m1
   omega
 refine ⟨key.1, ?_⟩
 have := key.2
 split at this <;> omega
theorem posL_lt (w h : Nat) (d : Int) (i k : Nat) (hi : i < manyL w h d) (hk : k < longL w h d) : 0 ≤ posL w h d i k ∧ posL w h d i k < ((w * h : Nat) : Int) := by
 refine ⟨Zem _ _ _ _ _, ?_⟩
 have t1 := Zjm w h d k hk
 unfold posL numL
 generalize (if rvB d = true then longL w h d - 1 - k else k) = a at *
 have bd : ∀ x y a b : Nat, x < a → y < b → x * b + y < a * b := by
  intro x y a b hx hy
  have h1 : (x + 1) * b ≤ a * b := Nat.mul_le_mul_right b (by omega)
  rw [Nat.succ_mul] at h1
  omega
 unfold manyL longL at *
 cases hu : udB d
 ·simp only [hu, Bool.false_eq_true, if_false] at *
  have := bd i a h w hi t1
  rw [Nat.mul_comm h w] at this
  omega
 ·simp only [hu, if_true] at *
  have := bd a i h w t1 hi
  rw [Nat.mul_comm h w] at this
  omega
theorem Ze1 (w h : Nat) (d : Int) (c : Int) : c ∈ (Zc3 w h d).flatten ↔ 0 ≤ c ∧ c < ((w * h : Nat) : Int) := by
 constructor
 ·intro hc
  obtain ⟨l, hl, hc⟩ := List.mem_flatten.1 hc
  obtain ⟨i, hi, rfl⟩ := List.mem_map.1 hl
  rw [Zeo] at hc
  obtain ⟨k, hk, rfl⟩ := List.mem_map.1 hc
  exact posL_lt w h d i k (List.mem_range.1 hi) (List.mem_range.1 hk)
 ·rintro ⟨h0, h1⟩
  obtain ⟨n, rfl⟩ : ∃ n : Nat, c = n := ⟨c.toNat, by omega⟩
  have h1 : n < w * h := by omega
  have hw : 0 < w := Nat.pos_of_ne_zero (by rintro rfl; simp at h1)
  have a1 : n % w < w := Nat.mod_lt _ hw
  have a2 : n / w < h := Nat.div_lt_of_lt_mul h1
  have e : n / w * w + n % w = n := by rw [Nat.mul_comm]; exact Nat.div_add_mod n w
  have main : ∀ i t : Nat, i < manyL w h d → t < longL w h d → numL w d i t = (n : Int) → (n : Int) ∈ (Zc3 w h d).flatten := by
   intro i t hi ht he
   refine List.mem_flatten.2 ⟨lineL w h d i, List.mem_map.2 ⟨i, List.mem_range.2 hi, rfl⟩, ?_⟩
   unfold lineL finL
   have : (n : Int) ∈ (List.range (longL w h d)).map (numL w d i) := List.mem_map.2 ⟨t, List.mem_range.2 ht, he⟩
   split
   ·exact List.mem_reverse.2 this
   ·exact this
  cases hu : udB d
  ·refine main (n / w) (n % w) (by unfold manyL; rw [hu]; exact a2) (by unfold longL; rw [hu]; exact a1) ?_
   unfold numL; rw [hu]; simp only [Bool.false_eq_true, if_false]; rw [e]
  ·refine main (n % w) (n / w) (by unfold manyL; rw [hu]; exact a1) (by unfold longL; rw [hu]; exact a2) ?_
   unfold numL; rw [hu]; simp only [if_true]; rw [e]
theorem Zgz (w h : Nat) (d : Int) : (Zc3 w h d).flatten.Nodup := by
 unfold List.Nodup
 rw [List.pairwise_flatten]
 constructor
 ·intro l hl
  obtain ⟨i, hi, rfl⟩ := List.mem_map.1 hl
  rw [Zeo, List.pairwise_map]
  refine List.Pairwise.imp_of_mem ?_ (List.pairwise_lt_range (n := longL w h d))
  intro a b ha hb hab e
  have := Zj8 w h d i a i b (List.mem_range.1 hi) (List.mem_range.1 ha) (List.mem_range.1 hi) (List.mem_range.1 hb) e
  omega
 ·rw [Zc3, List.pairwise_map]
  refine List.Pairwise.imp_of_mem ?_ (List.pairwise_lt_range (n := manyL w h d))
  intro a b ha hb hab x hx y hy e
  rw [Zeo] at hx hy
  obtain ⟨k, hk, rfl⟩ := List.mem_map.1 hx
  obtain ⟨k2, hk2, rfl⟩ := List.mem_map.1 hy
  have := Zj8 w h d a k b k2 (List.mem_range.1 ha) (List.mem_range.1 hk) (List.mem_range.1 hb) (List.mem_range.1 hk2) e
  omega
theorem Zgo (cells : List Int) : ∀ (l acc : List Int), (Zc8 cells acc l).flatten = acc ++ l.filter (nwB cells)
 | [], acc => by
  by_cases h : acc = [] <;> simp [Zc8, h]
 | k :: ks, acc => by
  by_cases h : acc = [] <;> by_cases hk : rd cells k = 35 <;> simp [Zc8, h, hk, Zgo cells ks, nwB, List.filter_cons]
theorem Ze8 (cells : List Int) (L : List (List Int)) : (runsL cells L).flatten = L.flatten.filter (nwB cells) := by
 induction L with
 | nil => rfl
 | cons l L ih =>
  have e : runsL cells (l :: L) = Zc8 cells [] l ++ runsL cells L := by simp [runsL]
  rw [e, List.flatten_append, ih, Zgo, List.flatten_cons, List.filter_append, List.nil_append]
theorem Zfm (cells : List Int) : ∀ (l acc : List Int), [] ∉ Zc8 cells acc l
 | [], acc => by
  by_cases h : acc = []
  ·simp [Zc8, h]
  ·simp only [Zc8, if_neg h, List.mem_singleton]; exact fun q => h q.symm
 | k :: ks, acc => by
  rw [Zc8]
  split
  ·split
   ·exact Zfm cells ks []
   ·rename_i h
    simp only [List.mem_cons, not_or]
    exact ⟨fun q => h q.symm, Zfm cells ks []⟩
  ·exact Zfm cells ks _
theorem Zgy (l : List Int) (h : l ≠ []) : Lib.minOf l ∈ l := by
 have main : ∀ (l : List Int) (a : Int), l.foldl min a = a ∨ l.foldl min a ∈ l := by
  intro l
  induction l with
  | nil => intro a; exact Or.inl rfl
  | cons b l ih =>
   intro a
   rw [List.foldl_cons]
   rcases ih (min a b) with q | q
   ·rw [q]
    rcases Int.le_total a b with r | r
    ·left; omega
    ·right; rw [show min a b = b by omega]; exact List.mem_cons_self
   ·right; exact List.mem_cons_of_mem _ q
 unfold Lib.minOf
 cases l with
 | nil => exact absurd rfl h
 | cons b l =>
  rcases main (b :: l) b with q | q
  ·show List.foldl min b (b :: l) ∈ b :: l
   rw [q]; exact List.mem_cons_self
  ·exact q
def strI (w h : Nat) (cells : List Int) (d : Int) : List (List Int) := (runsL cells (Zc3 w h d)).mergeSort Zie
theorem Zj5 (w h : Nat) (cells : List Int) (d : Int) (hw : w ≤ 8) (hh : h ≤ 8) : (runsL cells (Zc3 w h d)).length ≤ 10000 := by
 have hm : manyL w h d ≤ 8 := by unfold manyL; split <;> omega
 have hl : longL w h d ≤ 8 := by unfold longL; split <;> omega
 have main : ∀ L : List (List Int), (∀ l ∈ L, l.length ≤ 8) → (runsL cells L).length ≤ L.length * 9 := by
  intro L
  induction L with
  | nil => intro _; simp [runsL]
  | cons l L ih =>
   intro hL
   have e : runsL cells (l :: L) = Zc8 cells [] l ++ runsL cells L := by simp [runsL]
   have h1 := Zd1 cells l []
   have h2 := ih (fun l hl => hL l (List.mem_cons_of_mem _ hl))
   have h3 := hL l List.mem_cons_self
   rw [e, List.length_append, List.length_cons]
   omega
 have := main (Zc3 w h d) (by
  intro l hl'
  obtain ⟨i, hi, rfl⟩ := List.mem_map.1 hl'
  rw [Zeo, List.length_map, List.length_range]
  exact hl)
 have e : (Zc3 w h d).length = manyL w h d := by simp [Zc3]
 omega
theorem runs_ok (w h : Nat) (cells : List Int) (d : Int) (hw : w ≤ 8) (hh : h ≤ 8) : Zid (runsL cells (Zc3 w h d)) = true := by
 have hlen := Zj5 w h cells d hw hh
 have hne : ∀ a ∈ runsL cells (Zc3 w h d), a ≠ [] := by
  rintro a ha rfl
  obtain ⟨l, _, hl⟩ := List.mem_flatMap.1 ha
  exact Zfm cells _ _ hl
 have hfl := Ze8 cells (Zc3 w h d)
 have hmem : ∀ a ∈ runsL cells (Zc3 w h d), 0 ≤ Lib.minOf a ∧ Lib.minOf a < ((w * h : Nat) : Int) := by
  intro a ha
  have : Lib.minOf a ∈ (runsL cells (Zc3 w h d)).flatten := List.mem_flatten.2 ⟨a, ha, Zgy a (hne a ha)⟩
  rw [hfl] at this
  exact (Ze1 w h d _).1 (List.mem_filter.1 this).1
 have hwh : w * h ≤ 64 := Nat.mul_le_mul hw hh
 unfold Zid
 simp only [Bool.and_eq_true, decide_eq_true_eq, List.all_eq_true]
 refine ⟨⟨by omega, fun a ha => ⟨hne a ha, (hmem a ha).1, by have := (hmem a ha).2; omega⟩⟩, ?_⟩
 have nd : ((runsL cells (Zc3 w h d)).flatten).Nodup := by
  rw [hfl]; exact List.Nodup.sublist List.filter_sublist (Zgz w h d)
 unfold List.Nodup at nd
 rw [List.pairwise_flatten] at nd
 rw [List.pairwise_map]
 refine List.Pairwise.imp_of_mem ?_ nd.2
 intro a b ha hb hab
 exact hab _ (Zgy a (hne a ha)) _ (Zgy b (hne b hb))
theorem Zio (w h : Nat) (cells : List Int) (d : Int) (hd : isD d) (hw : w ≤ 8) (hh : h ≤ 8) (hl : cells.length = w * h) : Ev (fun k => Zat.f k w h cells d) (strI w h cells d) := by
 have hm : manyL w h d ≤ 8 := by unfold manyL; split <;> omega
 have hl8 : longL w h d ≤ 8 := by unfold longL; split <;> omega
 have e : (Zc3 w h d).length = manyL w h d := by simp [Zc3]
 refine Ev.bind (g := fun k t => Zat.l0 k [] t (t.length : Int) 0 w h cells) (lines_ev w h (by omega) (by omega) cells d hd) ?_
 refine Zhi w h cells (Zc3 w h d) (by omega) (fun l hl' => ?_) (fun l hl' k hk => ?_) _ ?_
 ·obtain ⟨i, hi, rfl⟩ := List.mem_map.1 hl'
  rw [Zeo, List.length_map, List.length_range]; omega
 ·have := (Ze1 w h d k).1 (List.mem_flatten.2 ⟨l, hl', hk⟩)
  omega
 ·unfold Za7.f
  rw [if_pos (runs_ok w h cells d hw hh)]; rfl
theorem Zet (w h : Nat) (cells : List Int) (d : Int) : (strI w h cells d).Perm (runsL cells (Zc3 w h d)) := List.mergeSort_perm _ _
theorem Zhn (w h : Nat) (cells : List Int) (d : Int) : (strI w h cells d).flatten.Nodup := by
 rw [(Zet w h cells d).flatten.nodup_iff, Ze8]
 exact List.Nodup.sublist List.filter_sublist (Zgz w h d)
theorem Zgf (w h : Nat) (cells : List Int) (d c : Int) : c ∈ (strI w h cells d).flatten ↔ (0 ≤ c ∧ c < ((w * h : Nat) : Int)) ∧ rd cells c ≠ 35 := by
 rw [(Zet w h cells d).flatten.mem_iff, Ze8, List.mem_filter, Ze1]
 simp [nwB]
theorem strI_len (w h : Nat) (cells : List Int) (d : Int) (hw : w ≤ 8) (hh : h ≤ 8) : (strI w h cells d).length ≤ 10000 := by
 rw [(Zet w h cells d).length_eq]; exact Zj5 w h cells d hw hh
theorem Zip (w h : Nat) (cells : List Int) (d : Int) (hd : isD d) (hw : w ≤ 8) (hh : h ≤ 8) (hl : cells.length = w * h) (x : List Int) : x ∈ strI w h cells d ↔ x ∈ Zcu w h cells (dI d) := by
 rw [(Zet w h cells d).mem_iff, runsL_eq w h hw hh cells d hd, Zed]
 constructor
 ·intro hx
  obtain ⟨c, hc, rfl⟩ := List.mem_map.1 hx
  obtain ⟨hc, hh⟩ := List.mem_filter.1 hc
  have hc := (Ze1 w h d c).1 hc
  obtain ⟨n, rfl⟩ : ∃ n : Nat, c = n := ⟨c.toNat, by omega⟩
  refine ⟨n, by omega, ?_, rfl⟩
  simp only [headI, Bool.and_eq_true, bne_iff_ne, ne_eq, decide_eq_true_eq] at hh
  exact hh
 ·rintro ⟨i, hi, hh, rfl⟩
  refine List.mem_map.2 ⟨(i : Int), List.mem_filter.2 ⟨(Ze1 w h d _).2 ⟨by omega, by omega⟩, ?_⟩, rfl⟩
  simp only [headI, Bool.and_eq_true, bne_iff_ne, ne_eq, decide_eq_true_eq]
  exact hh
def emptC (c : Int) : Int := if ballB c = true then 46 else c
def emptL (cells : List Int) : List Int := cells.map emptC
theorem Zk2 (w h : Int) (cells : List Int) (h0 : cells ≠ []) (hl : cells.length < 1000000) : Ev (fun k => Za5.f k w h cells) (w, h, emptL cells) := by
 have main : ∀ (m j : Nat) (x : List Int), j + m = cells.length → x.length = cells.length → x.drop j = cells.drop j → x.take j = (emptL cells).take j →
   Ev (fun k => Za5.l0 k (cells.length : Int) (j : Int) w h x) (w, h, emptL cells) := by
  intro m
  induction m with
  | zero =>
   intro j x hj hx hd ht
   refine Ev.shift (g := fun _ => some (w, h, x)) (Ev.const ?_) (fun k => ?_)
   ·have e1 : x.take j = x := List.take_of_length_le (by omega)
    have e2 : (emptL cells).take j = emptL cells := List.take_of_length_le (by simp [emptL]; omega)
    rw [e1, e2] at ht
    rw [ht]
   ·simp only [Za5.l0]
    rw [if_neg (by omega)]
  | succ m ih =>
   intro j x hj hx hd ht
   have hlt : j < cells.length := by omega
   have hltx : j < x.length := by omega
   have hxj : x[j] = cells[j] := by
    have := hd
    rw [Zcg x j hltx, Zcg cells j hlt] at this
    exact (List.cons.inj this).1
   have hdj : x.drop (j + 1) = cells.drop (j + 1) := by
    have := hd
    rw [Zcg x j hltx, Zcg cells j hlt] at this
    exact (List.cons.inj this).2
   have hle : j < (emptL cells).length := by simp [emptL]; omega
   have hej : (emptL cells)[j] = emptC cells[j] := by simp [emptL]
   refine Ev.shift (g := fun k => Za5.l0 k (cells.length : Int) ((j + 1 : Nat) : Int) w h (if ballB cells[j] = true then x.set j 46 else x)) ?_ (fun k => ?_)
   ·refine ih (j + 1) _ (by omega) (by split <;> simp [hx]) ?_ ?_
    ·split
     ·rw [List.drop_set_of_lt (by omega)]; exact hdj
     ·exact hdj
    ·rw [← List.take_append_getElem hle, hej, ← ht]
     split
     ·rename_i hb
      rw [← List.take_append_getElem (by simpa using hltx), List.getElem_set_self, List.take_set_of_le (by omega)]
      simp [emptC, hb]
     ·rename_i hb
      rw [← List.take_append_getElem hltx, hxj]
      simp [emptC, hb]
   ·simp only [Za5.l0]
    rw [if_pos (by omega), if_pos (by omega), if_pos (by omega), rd_n x j hltx, hxj, Zif, Zcc j (by omega), Option.bind_some, Int.toNat_natCast]
    cases ballB cells[j] <;> rfl
 refine Ev.congr (main cells.length 0 cells (by omega) rfl rfl rfl) (fun k => ?_)
 unfold Za5.f Zcb.f Zce.f
 rw [if_pos ⟨h0, by omega⟩]
 rfl
def cntB (cells ks : List Int) : Nat := (ks.filter fun k => ballB (rd cells k)).length
theorem Zic (cells own : List Int) : ∀ (ks : List Int) (n : Int), (mvGo cells own n ks).map (·.1) = ks.filter fun k => ballB (rd cells k)
 | [], n => rfl
 | k :: ks, n => by
  rw [mvGo, List.filter_cons]
  split
  ·rw [List.map_cons, Zic]
  ·rw [Zic]
theorem Zib (cells own : List Int) : ∀ (ks : List Int) (n : Nat), n + cntB cells ks ≤ own.length → (mvGo cells own n ks).map (·.2) = (own.drop n).take (cntB cells ks)
 | [], n, _ => by simp [mvGo, cntB]
 | k :: ks, n, hn => by
  have e : cntB cells (k :: ks) = if ballB (rd cells k) = true then cntB cells ks + 1 else cntB cells ks := by
   unfold cntB; rw [List.filter_cons]; split <;> simp
  rw [mvGo, e]
  rw [e] at hn
  split
  ·rename_i hb
   rw [if_pos hb] at hn
   have := Zib cells own ks (n + 1) (by omega)
   rw [List.map_cons, Zcg own n (by omega), List.take_succ_cons, rd_n own n (by omega), show ((n : Int) + 1) = ((n + 1 : Nat) : Int) by omega, this]
  ·rename_i hb
   rw [if_neg hb] at hn
   exact Zib cells own ks n hn
theorem cntB_le (cells ks : List Int) : cntB cells ks ≤ ks.length := List.length_filter_le _ _
theorem Zgx (cells : List Int) (S : List (List Int)) : (mvAll cells S).map (·.1) = S.flatten.filter fun k => ballB (rd cells k) := by
 unfold mvAll
 induction S with
 | nil => rfl
 | cons s S ih => rw [List.flatMap_cons, List.map_append, ih, Zic, List.flatten_cons, List.filter_append]
theorem Zgw (cells : List Int) (S : List (List Int)) : ((mvAll cells S).map (·.2)).Sublist S.flatten := by
 unfold mvAll
 induction S with
 | nil => exact List.Sublist.refl _
 | cons s S ih =>
  rw [List.flatMap_cons, List.map_append, List.flatten_cons]
  refine List.Sublist.append ?_ ih
  have := Zib cells s s 0 (by have := cntB_le cells s; omega)
  rw [show ((0 : Nat) : Int) = 0 from rfl] at this
  rw [this]
  exact (List.take_sublist _ _).trans (List.drop_sublist _ _)
def tiltI (w h : Nat) (cells : List Int) (d : Int) : List Int := Zdf cells (emptL cells) (mvAll cells (strI w h cells d))
theorem Zh3 (w h : Nat) (cells : List Int) (d : Int) (hw : w ≤ 8) (hh : h ≤ 8) : (strI w h cells d).flatten.length ≤ 64 := by
 have hm : manyL w h d ≤ 8 := by unfold manyL; split <;> omega
 have hl : longL w h d ≤ 8 := by unfold longL; split <;> omega
 rw [(Zet w h cells d).flatten.length_eq, Ze8]
 refine Nat.le_trans (List.length_filter_le _ _) ?_
 have : ∀ L : List (List Int), (∀ l ∈ L, l.length ≤ 8) → L.flatten.length ≤ L.length * 8 := by
  intro L
  induction L with
  | nil => intro _; simp
  | cons l L ih =>
   intro hL
   have h2 := ih (fun l hl => hL l (List.mem_cons_of_mem _ hl))
   have h3 := hL l List.mem_cons_self
   rw [List.flatten_cons, List.length_append, List.length_cons]
   omega
 have := this (Zc3 w h d) (by
  intro l hl'
  obtain ⟨i, hi, rfl⟩ := List.mem_map.1 hl'
  rw [Zeo, List.length_map, List.length_range]
  exact hl)
 have e : (Zc3 w h d).length = manyL w h d := by simp [Zc3]
 omega
theorem Zly (w h : Nat) (cells : List Int) (d : Int) (p : Int × Int) (hp : p ∈ mvAll cells (strI w h cells d)) :
  (0 ≤ p.1 ∧ p.1 < ((w * h : Nat) : Int)) ∧ ballB (rd cells p.1) = true ∧ (0 ≤ p.2 ∧ p.2 < ((w * h : Nat) : Int)) := by
 have h1 : p.1 ∈ (mvAll cells (strI w h cells d)).map (·.1) := List.mem_map.2 ⟨p, hp, rfl⟩
 have h2 : p.2 ∈ (mvAll cells (strI w h cells d)).map (·.2) := List.mem_map.2 ⟨p, hp, rfl⟩
 rw [Zgx, List.mem_filter] at h1
 have h2 := (Zgw cells _).subset h2
 exact ⟨((Zgf w h cells d _).1 h1.1).1, h1.2, ((Zgf w h cells d _).1 h2).1⟩
theorem Zli (w h : Nat) (cells : List Int) (d : Int) (hd : isD d) (hw0 : 0 < w) (hh0 : 0 < h) (hw : w ≤ 8) (hh : h ≤ 8) (hl : cells.length = w * h) : Ev (fun k => Zci.f k w h cells d) ((w : Int), (h : Int), tiltI w h cells d) := by
 have hwh : w * h ≤ 64 := Nat.mul_le_mul hw hh
 have hwh0 : 0 < w * h := Nat.mul_pos hw0 hh0
 have hne : cells ≠ [] := by rintro rfl; simp at hl; omega
 have fl := Zh3 w h cells d hw hh
 have hel : (emptL cells).length = w * h := by simp [emptL, hl]
 have e1 : Ziv cells (strI w h cells d) = some (mvAll cells (strI w h cells d)) := by
  unfold Ziv
  rw [if_pos ?_]
  refine ⟨?_, by omega, by have := strI_len w h cells d hw hh; omega, ?_, ?_⟩
  ·unfold Zl5
   simp only [List.all_eq_true, Bool.and_eq_true, decide_eq_true_eq]
   intro own ho k hk
   have := (Zgf w h cells d k).1 (List.mem_flatten.2 ⟨own, ho, hk⟩)
   omega
  ·have := (Zgw cells (strI w h cells d)).length_le
   rw [List.length_map] at this
   omega
  ·intro own ho
   have := (List.sublist_flatten_of_mem ho).length_le
   omega
 have e2 : mvOk cells.length (emptL cells).length (mvAll cells (strI w h cells d)) = true := by
  rw [hel, hl]
  unfold mvOk
  simp only [Bool.and_eq_true, List.all_eq_true, decide_eq_true_eq]
  have n1 : ((mvAll cells (strI w h cells d)).map (·.1)).Nodup := by
   rw [Zgx]; exact List.Nodup.sublist List.filter_sublist (Zhn w h cells d)
  have n2 : ((mvAll cells (strI w h cells d)).map (·.2)).Nodup := List.Nodup.sublist (Zgw cells _) (Zhn w h cells d)
  unfold List.Nodup at n1 n2
  rw [List.pairwise_map] at n1 n2
  refine ⟨⟨⟨⟨⟨?_, n1⟩, n2⟩, hwh0⟩, by omega⟩, by omega⟩
  intro p hp
  have := Zly w h cells d p hp
  exact ⟨⟨⟨this.1.1, this.1.2⟩, this.2.2.1⟩, this.2.2.2⟩
 obtain ⟨k1, h1⟩ := Zio w h cells d hd hw hh hl
 obtain ⟨k2, h2⟩ := Zk2 w h cells hne (by omega)
 refine ⟨max k1 k2, fun k hk => ?_⟩
 show Zci.f k w h cells d = _
 unfold Zci.f
 rw [show Zat.f k w h cells d = _ from h1 k (by omega), show Za5.f k w h cells = _ from h2 k (by omega), Option.bind_some, e1, Option.bind_some, Option.bind_some, if_pos e2]
 rfl
theorem Zh9 (cells own : List Int) : ∀ (ks : List Int) (n j : Nat), own.drop j = ks → n ≤ j → (∀ x ∈ mvD cells n j ks, x = 0) → ∀ p ∈ mvGo cells own n ks, p.1 = p.2
 | [], n, j, _, _, _, p, hp => by simp [mvGo] at hp
 | k :: ks, n, j, hd, hn, hz, p, hp => by
  have hlt : j < own.length := by
   rcases Nat.lt_or_ge j own.length with q | q
   ·exact q
   ·rw [List.drop_eq_nil_of_le q] at hd; cases hd
  rw [Zcg own j hlt] at hd
  obtain ⟨rfl, hd2⟩ := List.cons.inj hd
  rw [mvD] at hz
  rw [mvGo] at hp
  split at hp
  ·rename_i hb
   rw [if_pos hb] at hz
   have h0 := hz _ List.mem_cons_self
   obtain rfl : n = j := by omega
   rcases List.mem_cons.1 hp with q | q
   ·rw [q]; exact (rd_n own n hlt).symm
   ·exact Zh9 cells own ks (n + 1) (n + 1) hd2 (by omega) (fun x hx => hz x (List.mem_cons_of_mem _ hx)) p q
  ·rename_i hb
   rw [if_neg hb] at hz
   exact Zh9 cells own ks n (j + 1) hd2 (by omega) hz p hp
theorem Zia (cells own : List Int) : ∀ (ks : List Int) (n j : Nat), own.drop j = ks → n ≤ j → (n < j → ballB (rd cells (rd own n)) = false) → (∃ x ∈ mvD cells n j ks, x ≠ 0) → ∃ p ∈ mvGo cells own n ks, ballB (rd cells p.2) = false
 | [], n, j, _, _, _, hz => by
  obtain ⟨x, hx, _⟩ := hz
  simp [mvD] at hx
 | k :: ks, n, j, hd, hn, hf, hz => by
  have hlt : j < own.length := by
   rcases Nat.lt_or_ge j own.length with q | q
   ·exact q
   ·rw [List.drop_eq_nil_of_le q] at hd; cases hd
  rw [Zcg own j hlt] at hd
  obtain ⟨rfl, hd2⟩ := List.cons.inj hd
  rw [mvD] at hz
  rw [mvGo]
  by_cases hb : ballB (rd cells own[j]) = true
  ·rw [if_pos hb] at hz ⊢
   by_cases e : n = j
   ·subst e
    obtain ⟨x, hx, h0⟩ := hz
    rcases List.mem_cons.1 hx with q | q
    ·omega
    ·obtain ⟨p, hp, hq⟩ := Zia cells own ks (n + 1) (n + 1) hd2 (by omega) (by omega) ⟨x, q, h0⟩
     exact ⟨p, List.mem_cons_of_mem _ hp, hq⟩
   ·exact ⟨_, List.mem_cons_self, hf (by omega)⟩
  ·rw [if_neg hb] at hz ⊢
   refine Zia cells own ks n (j + 1) hd2 (by omega) (fun _ => ?_) hz
   by_cases e : n = j
   ·subst e
    rw [rd_n own n hlt]
    cases q : ballB (rd cells own[n])
    ·rfl
    ·exact absurd q hb
   ·exact hf (by omega)
theorem Zk6 (cells x0 : List Int) (mv : List (Int × Int)) (hx : x0.length = cells.length) : Zdf cells x0 mv = cells ↔ ∀ j (hj : j < cells.length), cellC cells x0 mv j = cells[j] := by
 unfold Zdf
 constructor
 ·intro h j hj
  have := congrArg (fun l => l[j]?) h
  simpa [List.getElem?_map, hx, hj, List.getElem?_eq_getElem hj, List.getElem?_range] using this
 ·intro h
  apply List.ext_getElem
  ·simp [hx]
  ·intro n h1 h2
   simp [h n h2]
theorem Zjd {c : Int} (h : ballB c = true) : c ≠ 35 := by
 rintro rfl; exact absurd h (by decide)
theorem Zkq (w h : Nat) (cells : List Int) (d : Int) (hl : cells.length = w * h) : tiltI w h cells d = cells ↔ ∀ own ∈ strI w h cells d, ∀ x ∈ mvD cells 0 0 own, x = 0 := by
 unfold tiltI
 rw [Zk6 _ _ _ (by simp [emptL])]
 constructor
 ·intro hc own ho
  apply Classical.byContradiction
  intro hz
  have hz : ∃ x ∈ mvD cells 0 0 own, x ≠ 0 := by
   apply Classical.byContradiction
   intro q
   exact hz fun x hx => Classical.byContradiction fun r => q ⟨x, hx, r⟩
  obtain ⟨p, hp, hq⟩ := Zia cells own own 0 0 rfl (by omega) (by omega) hz
  have hp : p ∈ mvAll cells (strI w h cells d) := List.mem_flatMap.2 ⟨own, ho, hp⟩
  have hm := Zly w h cells d p hp
  obtain ⟨j, hj⟩ : ∃ j : Nat, p.2 = j := ⟨p.2.toNat, by omega⟩
  have hjl : j < cells.length := by omega
  have hcj := hc j hjl
  unfold cellC at hcj
  cases hf : (mvAll cells (strI w h cells d)).find? (fun p => p.2 == (j : Int)) with
  | none =>
   have := List.find?_eq_none.1 hf p hp
   simp [hj] at this
  | some q =>
   rw [hf] at hcj
   have hqm := Zly w h cells d q (List.mem_of_find?_eq_some hf)
   rw [hj, rd_n cells j hjl, ← hcj, hqm.2.1] at hq
   cases hq
 ·intro hz j hj
  unfold cellC
  have hst : ∀ p ∈ mvAll cells (strI w h cells d), p.1 = p.2 := by
   intro p hp
   obtain ⟨own, ho, hp⟩ := List.mem_flatMap.1 hp
   exact Zh9 cells own own 0 0 rfl (by omega) (hz own ho) p hp
  cases hf : (mvAll cells (strI w h cells d)).find? (fun p => p.2 == (j : Int)) with
  | some q =>
   have h1 := hst q (List.mem_of_find?_eq_some hf)
   have h2 : q.2 = (j : Int) := by simpa using List.find?_some hf
   show rd cells q.1 = _
   rw [h1, h2, rd_n cells j hj]
  | none =>
   show rd (emptL cells) (j : Int) = _
   rw [rd_n (emptL cells) j (by simpa [emptL] using hj)]
   have e : (emptL cells)[j]'(by simpa [emptL] using hj) = emptC cells[j] := by simp [emptL]
   rw [e]
   unfold emptC
   by_cases hb : ballB cells[j] = true
   ·exfalso
    have hr := rd_n cells j hj
    have : (j : Int) ∈ (mvAll cells (strI w h cells d)).map (·.1) := by
     rw [Zgx, List.mem_filter]
     refine ⟨(Zgf w h cells d _).2 ⟨⟨by omega, by omega⟩, ?_⟩, by rw [hr]; exact hb⟩
     rw [hr]; exact Zjd hb
    obtain ⟨p, hp, he⟩ := List.mem_map.1 this
    have := List.find?_eq_none.1 hf p hp
    have h1 := hst p hp
    simp at this
    omega
   ·rw [if_neg hb]
theorem Zmj (l : List Int) : ∀ m : List Int, Lib.allEq (fun x y => x == y) l m = decide (l = m) := by
 induction l with
 | nil => intro m; cases m <;> simp [Lib.allEq]
 | cons a l ih =>
  intro m
  cases m with
  | nil => simp [Lib.allEq]
  | cons b m =>
   simp only [Lib.allEq, ih m, List.cons.injEq]
   by_cases e : a = b <;> simp [e]
def Zfl (w h : Nat) (cells : List Int) (d : Int) : Bool := ((Zcu w h cells (dI d)).flatMap (mvD cells 0 0)).all fun x => x == 0
theorem Zky (w h : Nat) (cells : List Int) (d : Int) (hd : isD d) (hw0 : 0 < w) (hh0 : 0 < h) (hw : w ≤ 8) (hh : h ≤ 8) (hl : cells.length = w * h) : Ev (fun k => Zbj.f k w h cells d) (Zfl w h cells d) := by
 have hwh0 : 0 < w * h := Nat.mul_pos hw0 hh0
 have hne : cells ≠ [] := by rintro rfl; simp at hl; omega
 have htl : (tiltI w h cells d).length = cells.length := by simp [tiltI, Zdf, emptL]
 have hne2 : tiltI w h cells d ≠ [] := by intro q; rw [q] at htl; simp at htl; omega
 have e : decide (tiltI w h cells d = cells) = Zfl w h cells d := by
  rw [Bool.eq_iff_iff, decide_eq_true_eq, Zkq w h cells d hl]
  unfold Zfl
  rw [List.all_eq_true]
  simp only [List.mem_flatMap, beq_iff_eq]
  constructor
  ·rintro hz x ⟨own, ho, hx⟩
   exact hz own ((Zip w h cells d hd hw hh hl own).2 ho) x hx
  ·intro hz own ho x hx
   exact hz x ⟨own, (Zip w h cells d hd hw hh hl own).1 ho, hx⟩
 obtain ⟨k1, h1⟩ := Zli w h cells d hd hw0 hh0 hw hh hl
 refine ⟨k1, fun k hk => ?_⟩
 show Zbj.f k w h cells d = _
 unfold Zbj.f Zb7.f
 rw [show Zci.f k w h cells d = _ from h1 k hk, Option.bind_some]
 show (if tiltI w h cells d ≠ [] ∧ cells ≠ [] then some (Lib.allEq (fun x y => x == y) (tiltI w h cells d) cells) else none).bind _ = _
 rw [if_pos ⟨hne2, hne⟩, Option.bind_some, Zmj, e]
def rowB (w : Nat) (cells : List Int) (y : Nat) : List UInt8 := ((cells.drop (y * w)).take w).map fun n => UInt8.ofNat n.toNat
def textB (w h : Nat) (cells : List Int) : List UInt8 := Lib.join ((List.range h).map (rowB w cells)) [47]
def textS (w h : Nat) (cells : List Int) : ByteArray := ⟨(textB w h cells).toArray⟩
theorem Zfg (w : Nat) (cells : List Int) (y : Nat) : (rowB w cells y).length ≤ w := by
 simp only [rowB, List.length_map, List.length_take]; omega
theorem Zl0 (x : List UInt8) (r : List (List UInt8)) (y sep : List UInt8) : Lib.join ((x :: r) ++ [y]) sep = Lib.join (x :: r) sep ++ sep ++ y := by
 rw [List.cons_append, Lib.join_cons, Lib.join_cons]
 simp [Lib.joinTail, List.append_assoc]
theorem Zhl (w : Nat) (cells : List Int) : textB w 0 cells = [] := rfl
theorem Zin (w : Nat) (cells : List Int) : textB w 1 cells = rowB w cells 0 := Lib.join_one _ _
theorem Zhm (w y : Nat) (cells : List Int) (hy : 0 < y) : textB w (y + 1) cells = textB w y cells ++ [47] ++ rowB w cells y := by
 unfold textB
 rw [List.range_succ, List.map_append, List.map_singleton]
 obtain ⟨z, rfl⟩ : ∃ z, y = z + 1 := ⟨y - 1, by omega⟩
 rw [List.range_succ_eq_map, List.map_cons]
 exact Zl0 _ _ _ _
theorem Zes (w : Nat) (cells : List Int) (hw : w ≤ 8) : ∀ y, (textB w y cells).length ≤ y * 9
 | 0 => by simp [Zhl]
 | 1 => by have := Zfg w cells 0; rw [Zin]; omega
 | y + 2 => by
  have h1 := Zes w cells hw (y + 1)
  have h2 := Zfg w cells (y + 1)
  rw [Zhm w (y + 1) cells (by omega), List.length_append, List.length_append, List.length_singleton]
  omega
theorem Zhb (a b : List UInt8) : ((⟨a.toArray⟩ : ByteArray) ++ (⟨b.toArray⟩ : ByteArray)) = ⟨(a ++ b).toArray⟩ := by
 apply ByteArray.ext
 simp
theorem Zha (a : List UInt8) : (⟨a.toArray⟩ : ByteArray).size = a.length := by
 show a.toArray.size = _
 simp
theorem cut_row (w y : Nat) (cells : List Int) : strOfNums ((cells.take ((y + 1) * w)).drop (y * w)) = ⟨(rowB w cells y).toArray⟩ := by
 unfold strOfNums rowB
 rw [List.drop_take, Nat.succ_mul, Nat.add_sub_cancel_left]
theorem Zlc (w h : Nat) (cells : List Int) (hw : w ≤ 8) (hh : h ≤ 8) (hl : cells.length = w * h) : Ev (fun k => Zb6.f k w h cells) (textS w h cells) := by
 have main : ∀ (m y : Nat), y + m = h → Ev (fun k => Zb6.l0 k (textS w y cells) (y : Int) w h cells) (textS w h cells) := by
  intro m
  induction m with
  | zero =>
   intro y hy
   obtain rfl : y = h := by omega
   refine Ev.shift (g := fun _ => some (textS w y cells)) (Ev.const rfl) (fun k => ?_)
   simp only [Zb6.l0]
   rw [if_neg (by omega)]
  | succ m ih =>
   intro y hy
   have hb1 : y * w ≤ 64 := Nat.mul_le_mul (show y ≤ 8 by omega) hw
   have hb2 : (y + 1) * w ≤ 64 := Nat.mul_le_mul (show y + 1 ≤ 8 by omega) hw
   have hb3 : (y + 1) * w ≤ w * h := by rw [Nat.mul_comm w h]; exact Nat.mul_le_mul_right _ (by omega)
   have hs : (y + 1) * w = y * w + w := Nat.succ_mul y w
   have e1 : wrap64 ((y : Int) * (w : Int)) = ((y * w : Nat) : Int) := by
    rw [← Int.natCast_mul, Zc1 (by omega) (by omega)]
   have e2 : wrap64 (wrap64 ((y : Int) + 1) * (w : Int)) = (((y + 1) * w : Nat) : Int) := by
    rw [Zcc y (by omega), ← Int.natCast_mul, Zc1 (by omega) (by omega)]
   have t1 := Zes w cells hw y
   have t2 := Zfg w cells y
   refine Ev.shift (ih (y + 1) (by omega)) (fun k => ?_)
   simp only [Zb6.l0]
   rw [e1, e2, Zcc y (by omega), Int.toNat_natCast, Int.toNat_natCast, cut_row, if_pos (by omega)]
   by_cases h0 : y = 0
   ·subst h0
    rw [if_neg (by omega), if_pos (by omega), if_pos (by omega), if_pos (by omega)]
    unfold textS
    rw [Zha, Zha, if_pos (by omega), Zhb, Zhl, Zin, List.nil_append]
   ·rw [if_pos (by omega), if_pos (by unfold textS; rw [Zha]; omega), if_pos (by omega), if_pos (by omega), if_pos (by omega)]
    unfold textS
    rw [show (⟨#[47]⟩ : ByteArray) = ⟨([47] : List UInt8).toArray⟩ from rfl, Zhb, Zhb, Zha, Zha, if_pos (by simp only [List.length_append, List.length_singleton]; omega), Zhm w y cells (by omega)]
 exact main h 0 (by omega)
theorem text_eq (w h : Nat) (cells : List Int) (hw0 : 0 < w) (hh0 : 0 < h) (hw : w ≤ 8) (hh : h ≤ 8) (hl : cells.length = w * h) : Zcw.f w h cells = some (textS w h cells) := by
 unfold Zcw.f strings_Join.f
 rw [if_pos ⟨by omega, by omega, by omega, by omega, by rw [Int.toNat_natCast, Int.toNat_natCast, Nat.mul_comm h w]; exact hl⟩, Int.toNat_natCast, Int.toNat_natCast]
 have e : (rowsT w h cells).map (fun s => s.data.toList) = (List.range h).map (rowB w cells) := by
  unfold rowsT
  rw [List.map_map]
  apply List.map_congr_left
  intro j hj
  simp [rowT, strOfNums, rowB]
 rw [e]
 have t1 := Zes w cells hw h
 rw [if_pos ⟨by simp [rowsT]; omega, by show (textB w h cells).length ≤ _; omega⟩]
 rfl
theorem Zkh (w h : Int) (cells : List Int) (d : Int) : ∀ (L : List Nat) (S : List (List Int)), (L.foldl (stepS w h cells d) S).length ≤ S.length + L.length
 | [], S => by simp
 | i :: L, S => by
  have h1 := Zkh w h cells d L (stepS w h cells d S i)
  have h2 : (stepS w h cells d S i).length ≤ S.length + 1 := by
   unfold stepS
   split
   ·omega
   ·split
    ·omega
    ·rw [Zfh]; omega
  rw [List.foldl_cons, List.length_cons]
  omega
theorem Zfc (w h : Int) (cells : List Int) (d : Int) : (Zcu w h cells d).length ≤ cells.length := by
 have := Zkh w h cells d (List.range cells.length) []
 simpa [Zcu] using this
theorem Zjf (w h : Nat) (cells : List Int) (d : Int) (hd : 0 ≤ d ∧ d ≤ 3) (hw0 : 0 < w) (hh0 : 0 < h) (hw : w ≤ 7) (hh : h ≤ 7) (hl : cells.length = w * h) :
  Ev (fun k => Za4.f k w h cells d) ((Zcu w h cells d).flatMap (mvD cells 0 0)) := by
 have hwh0 : 0 < w * h := Nat.mul_pos hw0 hh0
 have hwh : w * h ≤ 49 := Nat.mul_le_mul hw hh
 have c1 : (cells.length : Int) = (w : Int) * (h : Int) := by rw [hl]; simp
 have c2 : (w : Int) * (h : Int) = ((w * h : Nat) : Int) := by simp
 have sl := Zfc w h cells d
 refine Ev.bind (g := fun k t => Za4.l0 k [] t (t.length : Int) 0 w h cells) (Zhh w h d cells (by omega) (by omega) (by omega) (by omega) c1 (by omega) (by omega) hd) ?_
 exact Zkr w h cells _ (Zh2 w h cells d (by omega) (by omega) c1) (by omega) (fun own ho => by have := Zeq w h cells d own ho; omega)
open Go.PW.PrintMore
def dirIx (c : UInt8) : Int := if c = 117 then 0 else if c = 114 then 1 else if c = 100 then 2 else if c = 108 then 3 else -1
theorem Zeg (c : UInt8) : (⟨#[c]⟩ : ByteArray).toList = [c] := by rw [Lib.toList_data]
theorem dirs_at : ((⟨#[117, 114, 100, 108]⟩ : ByteArray).extract 0 1).toList = [117] ∧ ((⟨#[117, 114, 100, 108]⟩ : ByteArray).extract 1 2).toList = [114] ∧ ((⟨#[117, 114, 100, 108]⟩ : ByteArray).extract 2 3).toList = [100] ∧ ((⟨#[117, 114, 100, 108]⟩ : ByteArray).extract 3 4).toList = [108] := by
 refine ⟨?_, ?_, ?_, ?_⟩ <;> rw [Lib.extract_toList] <;> rfl
theorem Zft : (⟨#[117, 114, 100, 108]⟩ : ByteArray).size = 4 := rfl
theorem Zfs : (Zc5.f) = some (⟨#[117, 114, 100, 108]⟩ : ByteArray) := rfl
theorem tiDir_l0 (k : Nat) (x : ByteArray) (y : Int) : Zbs.l0 (k + 1) x y = if y < 4 then ((Zc5.f).bind fun t101 => (if 0 ≤ y then (if y ≤ (wrap64 (y + 1)) then (if (wrap64 (y + 1)) ≤ (t101.size : Int) then (if x.toList = (t101.extract y.toNat ((wrap64 (y + 1)) : Int).toNat).toList then (some y) else (Zbs.l0 k x (wrap64 (y + 1)))) else (none)) else (none)) else (none))) else (some (-1)) := by
 simp only [Zbs.l0]
theorem Zj3 (k : Nat) (x D : ByteArray) (j : Nat) (hj : j < 4) (hD : Zc5.f = some D) (hz : D.size = 4) : Zbs.l0 (k + 1) x (j : Int) = if x.toList = (D.extract j (j + 1)).toList then some (j : Int) else Zbs.l0 k x ((j + 1 : Nat) : Int) := by
 rw [tiDir_l0, hD, Option.bind_some, if_pos (by omega), if_pos (by omega), Zcc j (by omega), if_pos (by omega), hz, if_pos (by omega), Int.toNat_natCast, Int.toNat_natCast]
theorem Ze7 (x D : ByteArray) (c e : UInt8) (j : Nat) (hj : j < 4) (hD : Zc5.f = some D) (hz : D.size = 4) (hx : x.toList = [c]) (he : (D.extract j (j + 1)).toList = [e]) (r : Int) (h1 : c = e → r = j) (h2 : c ≠ e → Ev (fun k => Zbs.l0 k x ((j + 1 : Nat) : Int)) r) :
  Ev (fun k => Zbs.l0 k x (j : Int)) r := by
 by_cases h : c = e
 ·refine Ev.shift (g := fun _ => some r) (Ev.const rfl) (fun k => ?_)
  rw [Zj3 k x D j hj hD hz, hx, he, if_pos (by rw [h]), h1 h]
 ·refine Ev.shift (h2 h) (fun k => ?_)
  rw [Zj3 k x D j hj hD hz, hx, he, if_neg (by simpa using h)]
theorem Zj2 (c : UInt8) : Ev (fun k => Zbs.f k ⟨#[c]⟩) (dirIx c) := by
 have d := dirs_at
 refine Ev.congr (g := fun k => Zbs.l0 k ⟨#[c]⟩ ((0 : Nat) : Int)) ?_ (fun k => rfl)
 refine Ze7 _ _ c 117 0 (by omega) Zfs Zft (Zeg c) d.1 _ (fun h => by rw [h]; rfl) (fun h0 => ?_)
 refine Ze7 _ _ c 114 1 (by omega) Zfs Zft (Zeg c) d.2.1 _ (fun h => by rw [h]; rfl) (fun h1 => ?_)
 refine Ze7 _ _ c 100 2 (by omega) Zfs Zft (Zeg c) d.2.2.1 _ (fun h => by rw [h]; rfl) (fun h2 => ?_)
 refine Ze7 _ _ c 108 3 (by omega) Zfs Zft (Zeg c) d.2.2.2 _ (fun h => by rw [h]; rfl) (fun h3 => ?_)
 refine Ev.shift (g := fun _ => some (dirIx c)) (Ev.const rfl) (fun k => ?_)
 simp only [Zbs.l0]
 rw [if_neg (by omega)]
 simp [dirIx, h0, h1, h2, h3]
theorem Zjt (s : ByteArray) (i : Nat) (hi : i < s.data.toList.length) : s.extract i (i + 1) = ⟨#[s.data.toList[i]]⟩ := by
 rw [Lib.extract_eq, show i + 1 - i = 1 by omega, Zcg _ i hi, List.take_succ_cons, List.take_zero]
def goodD (c : UInt8) : Prop := c = 117 ∨ c = 114 ∨ c = 100 ∨ c = 108
theorem Zi6 (c : UInt8) (h : goodD c) : isD (c.toNat : Int) ∧ dI (c.toNat : Int) = dirIx c := by
 rcases h with rfl | rfl | rfl | rfl
 ·exact ⟨Or.inl rfl, rfl⟩
 ·exact ⟨Or.inr (Or.inl rfl), rfl⟩
 ·exact ⟨Or.inr (Or.inr (Or.inl rfl)), rfl⟩
 ·exact ⟨Or.inr (Or.inr (Or.inr rfl)), rfl⟩
theorem Zkg (c : UInt8) : goodD c ↔ 0 ≤ dirIx c := by
 unfold goodD dirIx
 constructor
 ·rintro (rfl | rfl | rfl | rfl) <;> decide
 ·intro h
  split at h
  ·exact Or.inl (by assumption)
  ·split at h
   ·exact Or.inr (Or.inl (by assumption))
   ·split at h
    ·exact Or.inr (Or.inr (Or.inl (by assumption)))
    ·split at h
     ·exact Or.inr (Or.inr (Or.inr (by assumption)))
     ·omega
theorem dirIx_le (c : UInt8) : dirIx c ≤ 3 := by
 unfold dirIx
 split
 ·omega
 ·split
  ·omega
  ·split
   ·omega
   ·split <;> omega
def Zeu (w h : Nat) (cells : List Int) (l : List UInt8) : Bool := l.all fun c => Zfl w h cells (c.toNat : Int)
def addD (w h : Nat) (l : List UInt8) (cells : List Int) : List ByteArray := if Zeu w h cells l = true then [textS w h cells] else []
theorem Zgn (w h : Nat) (cells : List Int) (hw0 : 0 < w) (hh0 : 0 < h) (hw : w ≤ 8) (hh : h ≤ 8) (hl : cells.length = w * h) : ∀ l : List UInt8, (∀ c ∈ l, goodD c) →
  Ev (fun k => Zek k w h cells (l.map fun b => (b.toNat : Int))) (Zeu w h cells l)
 | [], _ => Ev.const rfl
 | c :: l, hg => by
  have ih := Zgn w h cells hw0 hh0 hw hh hl l (fun c hc => hg c (List.mem_cons_of_mem _ hc))
  have hs := Zky w h cells (c.toNat : Int) (Zi6 c (hg c List.mem_cons_self)).1 hw0 hh0 hw hh hl
  rw [List.map_cons]
  refine Ev.bind (g := fun k b => if b = true then Zek k w h cells (l.map fun b => (b.toNat : Int)) else some false) hs ?_
  have e : Zeu w h cells (c :: l) = (Zfl w h cells (c.toNat : Int) && Zeu w h cells l) := by simp [Zeu]
  rw [e]
  cases Zfl w h cells (c.toNat : Int)
  ·exact Ev.const rfl
  ·exact ih.congr (fun k => rfl)
theorem Zlj (w h : Nat) (cells : List Int) (hw0 : 0 < w) (hh0 : 0 < h) (hw : w ≤ 8) (hh : h ≤ 8) (hl : cells.length = w * h) (text : ByteArray) (hg : ∀ c ∈ text.data.toList, goodD c) :
  Ev (fun k => Zf8 k w h cells text) (addD w h text.data.toList cells) := by
 have hs := Zgn w h cells hw0 hh0 hw hh hl text.data.toList hg
 refine Ev.bind (g := fun k b => if b = true then (Zcw.f w h cells).bind fun s => some [s] else some []) hs (Ev.const ?_)
 unfold addD
 cases Zeu w h cells text.data.toList
 ·rfl
 ·rw [if_pos rfl, if_pos rfl, text_eq w h cells hw0 hh0 hw hh hl]; rfl
theorem Zhp (w h : Nat) (cells list : List Int) (hw0 : 0 < w) (hh0 : 0 < h) (hw : w ≤ 8) (hh : h ≤ 8) (hl : cells.length = w * h) (text : ByteArray) (hg : ∀ c ∈ text.data.toList, goodD c) : ∀ n : Nat,
  Ev (fun k => Zdi k w h cells list text n) ((List.range n).flatMap fun s => addD w h text.data.toList (fillJ cells list s list.length))
 | 0 => Ev.const rfl
 | n + 1 => by
  have ih := Zhp w h cells list hw0 hh0 hw hh hl text hg n
  have hf := Zlj w h (fillJ cells list n list.length) hw0 hh0 hw hh (by rw [Ze3]; exact hl) text hg
  refine Ev.bind (g := fun k out => (Zf8 k w h (fillJ cells list n list.length) text).bind fun r => some (out ++ r)) ih ?_
  refine Ev.bind (g := fun k r => some (_ ++ r)) hf (Ev.const ?_)
  rw [List.range_succ, List.flatMap_append]
  simp
theorem Zll : ∀ n : Nat, n ≤ 16 → shl .i64 1 (n : Int) = ((2 ^ n : Nat) : Int) := by decide
theorem Zjz (w h : Nat) (cells : List Int) (n : Nat) (hn : n ≤ 16) (hw0 : 0 < w) (hh0 : 0 < h) (hw : w ≤ 7) (hh : h ≤ 7) (hl : cells.length = w * h) (text : ByteArray) (hsz : text.size < 1000000) (hg : ∀ c ∈ text.data.toList, goodD c) :
  Ev (fun k => Zap.f k w h cells n text) ((List.range (2 ^ n)).flatMap fun s => addD w h text.data.toList (fillS (freeL cells) s cells)) := by
 have hp : 2 ^ n ≤ 65536 := Nat.pow_le_pow_right (by omega) hn
 have hwh : w * h ≤ 49 := Nat.mul_le_mul hw hh
 have hts : text.data.toList.length = text.size := (Lib.size_eq text).symm
 have moves : ∀ (s : Nat) (hs : s < 65536) (out : List ByteArray) (now : List Int) (r : List ByteArray) (i : Nat) (M : List Int) (hM : M.length < 1000000) (m j : Nat) (flag : Bool), j + m = M.length →
   Ev (fun k => Zap.l1 k n text out s (flag && (M.drop j).all fun x => x == 0) (wrap64 ((i : Int) + 1)) w h cells w h now) r →
   Ev (fun k => Zap.l2 k n text out s flag i M (M.length : Int) (j : Int) w h cells w h now) r := by
  intro s hs out now r i M hM m
  induction m with
  | zero =>
   intro j flag hj hr
   refine Ev.shift hr (fun k => ?_)
   simp only [Zap.l2]
   rw [if_neg (by omega), List.drop_eq_nil_of_le (by omega), List.all_nil, Bool.and_true]
  | succ m ih =>
   intro j flag hj hr
   have hlt : j < M.length := by omega
   rw [Zcg M j hlt, List.all_cons, ← Bool.and_assoc] at hr
   refine Ev.shift (ih (j + 1) (flag && (M[j] == 0)) (by omega) hr) (fun k => ?_)
   simp only [Zap.l2]
   rw [if_pos (by omega), if_pos (by omega), if_pos (by omega), rd_n M j hlt, Zcc j (by omega)]
   cases flag <;> rfl
 have dirs : ∀ (s : Nat) (hs : s < 65536) (out : List ByteArray) (ho : out.length ≤ 65536) (now : List Int) (hnow : now.length = w * h) (r : List ByteArray) (m i : Nat) (flag : Bool), i + m = text.data.toList.length →
   Ev (fun k => Zap.l0 k n text (out ++ if (flag && Zeu w h now (text.data.toList.drop i)) = true then [textS w h now] else []) ((s + 1 : Nat) : Int) w h cells) r →
   Ev (fun k => Zap.l1 k n text out s flag (i : Int) w h cells w h now) r := by
  intro s hs out ho now hnow r m
  induction m with
  | zero =>
   intro i flag hi hr
   rw [List.drop_eq_nil_of_le (by omega), Zeu, List.all_nil, Bool.and_true] at hr
   have step : Ev (fun k => Zap.j2 k n text out s flag (i : Int) false w h cells w h now) r := by
    cases flag
    ·simp only [Bool.false_eq_true, if_false, List.append_nil] at hr
     refine Ev.shift hr (fun k => ?_)
     simp only [Zap.j2]
     rw [if_neg (by simp), if_neg (by simp), Zcc s (by omega)]
    ·have ht := Zlc w h now (by omega) (by omega) hnow
     refine Ev.shift (g := fun k => (Zb6.f k w h now).bind fun t => if out.length < 8796093022208 then Zap.l0 k n text (out ++ [t]) ((s + 1 : Nat) : Int) w h cells else none) (Ev.bind ht ?_) (fun k => ?_)
     ·refine Ev.congr hr (fun k => ?_)
      simp only [if_true]
      rw [if_pos (show out.length < 8796093022208 by omega)]
     ·simp only [Zap.j2]
      rw [if_neg (by simp), if_pos trivial, Zcc s (by omega)]
   refine Ev.shift step (fun k => ?_)
   simp only [Zap.l1]
   rw [if_neg (by omega)]
  | succ m ih =>
   intro i flag hi hr
   have hlt : i < text.data.toList.length := by omega
   have hgi := hg _ (List.getElem_mem hlt)
   have hd := Zi6 _ hgi
   rw [Zcg _ i hlt] at hr
   have e : ∀ c l, Zeu w h now (c :: l) = (Zfl w h now (c.toNat : Int) && Zeu w h now l) := fun c l => by simp [Zeu]
   rw [e] at hr
   cases flag
   ·simp only [Bool.false_and, Bool.false_eq_true, if_false, List.append_nil] at hr
    refine Ev.shift (g := fun k => Zap.j2 k n text out s false (i : Int) false w h cells w h now) ?_ (fun k => ?_)
    ·refine Ev.shift hr (fun k => ?_)
     simp only [Zap.j2]
     rw [if_neg (by simp), if_neg (by simp), Zcc s (by omega)]
    ·simp only [Zap.l1]
     rw [if_pos (by omega)]
   ·have hm := Zjf w h now (dirIx text.data.toList[i]) ⟨(Zkg _).1 hgi, dirIx_le _⟩ hw0 hh0 hw hh hnow
    have hmL : ((Zcu w h now (dirIx text.data.toList[i])).flatMap (mvD now 0 0)).length < 1000000 := by
     have h1 := Zfc w h now (dirIx text.data.toList[i])
     have h2 := Zeq w h now (dirIx text.data.toList[i])
     have : ∀ S : List (List Int), (∀ s ∈ S, s.length ≤ 9) → (S.flatMap (mvD now 0 0)).length ≤ S.length * 9 := by
      intro S
      induction S with
      | nil => intro _; simp
      | cons s S ih =>
       intro hS
       have h1 := ih (fun s hs => hS s (List.mem_cons_of_mem _ hs))
       have h2 := hS s List.mem_cons_self
       have h3 := Zfa now 0 0 s
       rw [List.flatMap_cons, List.length_append, List.length_cons]
       omega
     have := this _ h2
     omega
    refine Ev.shift (g := fun k => Zap.j2 k n text out s true (i : Int) true w h cells w h now) ?_ (fun k => ?_)
    ·refine Ev.shift (g := fun k => (Zbs.f k ⟨#[text.data.toList[i]]⟩).bind fun t => (Za4.f k w h now t).bind fun M => Zap.l2 k n text out s true i M (M.length : Int) 0 w h cells w h now) ?_ (fun k => ?_)
     ·refine Ev.bind (g := fun k t => (Za4.f k w h now t).bind fun M => Zap.l2 k n text out s true i M (M.length : Int) 0 w h cells w h now) (Zj2 _) ?_
      refine Ev.bind (g := fun k M => Zap.l2 k n text out s true i M (M.length : Int) 0 w h cells w h now) hm ?_
      refine moves s hs out now r i _ hmL _ 0 true (Nat.zero_add _) ?_
      rw [Zcc i (by omega)]
      refine ih (i + 1) _ (by omega) ?_
      have e2 : Zfl w h now ((text.data.toList[i].toNat : Nat) : Int) = ((Zcu w h now (dirIx text.data.toList[i])).flatMap (mvD now 0 0)).all fun x => x == 0 := by
       unfold Zfl; rw [hd.2]
      rw [e2] at hr
      simpa using hr
     ·simp only [Zap.j2]
      rw [if_pos trivial, if_pos (by omega), Zcc i (by omega), if_pos (by omega), if_pos (by omega), Int.toNat_natCast, Int.toNat_natCast, Zjt text i hlt]
    ·simp only [Zap.l1]
     rw [if_pos (by omega)]
 have outer : ∀ (m s : Nat) (out : List ByteArray), s + m = 2 ^ n → out.length ≤ s →
   Ev (fun k => Zap.l0 k n text out (s : Int) w h cells) (out ++ (List.range' s m).flatMap fun s => addD w h text.data.toList (fillS (freeL cells) s cells)) := by
  intro m
  induction m with
  | zero =>
   intro s out hs ho
   refine Ev.shift (g := fun _ => some out) (Ev.const (by simp)) (fun k => ?_)
   simp only [Zap.l0]
   rw [if_pos (by omega), Zll n hn, if_neg (by omega)]
  | succ m ih =>
   intro s out hs ho
   have hf := Zmc w h cells s (by omega) (by omega)
   have hlen : (fillS (freeL cells) s cells).length = w * h := by rw [Zgb]; exact hl
   refine Ev.shift (g := fun k => (Zbx.f k w h cells s).bind fun b => Zap.l1 k n text out s true 0 w h cells b.1 b.2.1 b.2.2) (Ev.bind hf ?_) (fun k => ?_)
   ·refine dirs s (by omega) out (by omega) _ hlen _ _ 0 true (Nat.zero_add _) ?_
    have hlA : (addD w h text.data.toList (fillS (freeL cells) s cells)).length ≤ 1 := by
     unfold addD; split <;> simp
    have := ih (s + 1) (out ++ addD w h text.data.toList (fillS (freeL cells) s cells)) (by omega) (by rw [List.length_append]; omega)
    rw [List.range'_succ, List.flatMap_cons, ← List.append_assoc]
    exact this
   ·simp only [Zap.l0]
    rw [if_pos (by omega), Zll n hn, if_pos (by omega)]
 have := outer (2 ^ n) 0 [] (by omega) (by simp)
 rw [← List.range_eq_range'] at this
 exact this
end Go.Proofs.YtjohcjkidoalkaaGreatDoor.Plain
