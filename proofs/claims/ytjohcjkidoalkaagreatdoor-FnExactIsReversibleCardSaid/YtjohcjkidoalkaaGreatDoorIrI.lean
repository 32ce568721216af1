/- Contracts of functions and plain lemmas, for the last text. -/
import Derived.Test.YtjohcjkidoalkaaGreatDoorIrH
set_option linter.unusedVariables false
set_option linter.unusedSimpArgs false
namespace Go.Proofs.YtjohcjkidoalkaaGreatDoor.PA
open Go.RowKit Go.PW.PrintWords Go.PW.PrintLast Go.PW.PrintMore
attribute [local go_sem] Zbn Zbl Zb3 Zb2 Zbb Zba Zbm Zbk
def Za0.l0 : Nat → List Int → List Int → Int → Int → Option (Bool × Bool)
 | 0, _, _, _, _ => none
 | k + 1, x12, x30, x31, x32 => if x32 < x31 then (if 0 ≤ x32 then (if x32 < (x30.length : Int) then (if x32 ≤ (x12.length : Int) then ((Zby.f k (x12.take (x32 : Int).toNat) (rd x30 x32)).bind fun t116 => (if t116 = true then (some (false, true)) else (Za0.l0 k x12 x30 x31 (wrap64 (x32 + 1))))) else (none)) else (none)) else (none)) else (some (true, true))
def Za0.f (k : Nat) (a0 : ByteArray) (l1 : List Int) (l2 : List Int) (a3 : ByteArray) : Option (Bool × Bool) := (Zbw.f k a0 l1 l2 a3).bind fun bt101 => (if bt101.2.2.2 = true then ((Zcm.f k bt101.1 bt101.2.1 bt101.2.2.1 l1 l2 a3).bind fun t108 => (Za0.l0 k t108 t108 (t108.length : Int) 0)) else (some (false, false)))
set_option maxHeartbeats 8000000 in
set_option maxRecDepth 100000 in
theorem Za0.calls (k : Nat) (a0 : ByteArray) (A1 : Option Addr) (c1 : Nat) (l1 : List Int) (A2 : Option Addr) (c2 : Nat) (l2 : List Int) (a3 : ByteArray) (r1 : Bool) (r2 : Bool) (w : World) (hr1 : Kd.C (Kd.int .i64) w A1 l1.length l1) (hc1 : l1.length ≤ c1) (hr2 : Kd.C (Kd.int .i64) w A2 l2.length l2) (hc2 : l2.length ≤ c2) (h : Za0.f k a0 l1 l2 a3 = some (r1, r2)) :
  Calls Tryz.prog 17 #[.string a0, .slice A1 l1.length c1, .slice A2 l2.length c2, .string a3] w fun e w' => e = .returned (.tuple #[.bool r1, .bool r2]) ∧ Below w.heap.size w w' := by
 have hu52 := Tryz.underlying52
 have HR1 := Zad.mk hr1
 have HC1 := Zad.mk hc1
 clear hr1 hc1
 have HR2 := Zad.mk hr2
 have HC2 := Zad.mk hc2
 clear hr2 hc2
 have HB := Zad.mk (Below.refl w.heap.size w)
 have H : ((Zbw.f k a0 l1 l2 a3).bind fun bt101 => (if bt101.2.2.2 = true then ((Zcm.f k bt101.1 bt101.2.1 bt101.2.2.1 l1 l2 a3).bind fun t108 => (Za0.l0 k t108 t108 (t108.length : Int) 0)) else (some (false, false)))) = some (r1, r2) := h
 clear h
 replace H := Option.bind_eq_some_iff.mp H
 obtain ⟨⟨t101, t102, t103, t106⟩, A50, H⟩ := H
 replace H : (if t106 = true then ((Zcm.f k t101 t102 t103 l1 l2 a3).bind fun t108 => (Za0.l0 k t108 t108 (t108.length : Int) 0)) else (some (false, false))) = some (r1, r2) := H
 have A5 := Zad.mk A50
 clear A50
 by_cases c6 : t106 = true
 ·subst c6
  have H1 : ((Zcm.f k t101 t102 t103 l1 l2 a3).bind fun t108 => (Za0.l0 k t108 t108 (t108.length : Int) 0)) = some (r1, r2) := by rw [if_pos rfl] at H; exact H
  clear H
  have H := H1
  clear H1
  replace H := Option.bind_eq_some_iff.mp H
  obtain ⟨t108, A70, H⟩ := H
  replace H : (Za0.l0 k t108 t108 (t108.length : Int) 0) = some (r1, r2) := H
  have A7 := Zad.mk A70
  clear A70
  have H' := Zad.mk H
  clear H
  go_enter Tryz.func17, Tryz.ntmps17
  go_wp2_with (first | ((with_reducible refine Zas (f := 44) rfl ?_); refine Zbg (some 20) rfl rfl Tryz.func44 (by kernel_rfl) rfl #[.string a0, .slice A1 l1.length c1, .slice A2 l2.length c2, .string a3] rfl (by (try simp only [List.map_toArray, List.map_cons, List.map_nil]); first | done | rfl | (simp only [List.length_drop, List.length_take]; rfl)) ?_; (with_reducible refine (Zbw.calls k a0 _ _ l1 _ _ l2 a3 t101 t102 t103 true _ ?side1 ?side2 ?side3 ?side4 A5.out).mono ?_); (case side1 => repeat (first | exact HR1.out | (with_reducible refine Kd.C_alloc ?_ _) | (with_reducible refine Kd.C_drewN ?_ _) | (with_reducible refine Kd.C_drew ?_))); (case side2 => exact HC1.out); (case side3 => repeat (first | exact HR2.out | (with_reducible refine Kd.C_alloc ?_ _) | (with_reducible refine Kd.C_drewN ?_ _) | (with_reducible refine Kd.C_drew ?_))); (case side4 => exact HC2.out); rintro e w8 ⟨v104, rfl, ho0, hb⟩; refine ⟨_, rfl, ?_⟩; have n0_ := Zad.mk (Kd.R_lower ho0 (Zak (by with_reducible repeat first | exact HB.out | apply Zac | apply Zaa | apply Zab))); have n1_ := Zad.mk (Zal (by with_reducible repeat first | exact HB.out | apply Zac | apply Zaa | apply Zab) hb); clear HB; have HO105 := n0_; have HB := n1_) | ((with_reducible refine Zaz (N := 10) rfl ?_); refine Zay ?hg (N := 10) ?hd (cs := #[.int .i64 0, .int .i64 0, .slice none 0 0]) (t := 52) ?hr ?_; (case hd => rfl); (case hg => rfl); (case hr => first | (go_simp; done) | (go_simp; rfl)); intro g07 hg w9 hbox hb; have n0_ := Zad.mk (Kd.R_below (by (with_reducible repeat (first | apply Kd.R_alloc | apply Kd.R_drewN | apply Kd.R_drew)); exact HO105.out) hb); have n1_ := Zad.mk (Zal (by with_reducible repeat first | exact HB.out | apply Zac | apply Zaa | apply Zab) hb); have n2_ := Zad.mk (hbox); have n3_ := Zad.mk ((by rw [hg]; exact (Zak (by with_reducible repeat first | exact HB.out | apply Zac | apply Zaa | apply Zab)) : w.heap.size ≤ g07)); have n4_ := n3_; clear HO105; clear HB; have HO105 := n0_; have HB := n1_; have K07 := n2_; have W07 := n3_; have E07 := n4_; clear hb hbox hg; have hcz10_0 : w9.cell? ⟨g07, 0, none⟩ = some (.int .i64 0) := (Zah K07.out 0).trans rfl; have hcz10_1 : w9.cell? ⟨g07, 1, none⟩ = some (.int .i64 0) := (Zah K07.out 1).trans rfl; have hcz10_2 : w9.cell? ⟨g07, 2, none⟩ = some (.slice none 0 0) := (Zah K07.out 2).trans rfl; have hfz10_0 := Zae K07.out 0; have hfz10_1 := Zae K07.out 1; have hfz10_2 := Zae K07.out 2; obtain ⟨Ao11, co11, eo11⟩ := Kd.R_slice HO105.out; subst eo11) | ((with_reducible refine Zas (f := 45) rfl ?_); refine Zbg (some 29) rfl rfl Tryz.func45 (by kernel_rfl) rfl #[.agg #[.int .i64 t101, .int .i64 t102, .slice Ao11 t103.length co11], .slice A1 l1.length c1, .slice A2 l2.length c2, .string a3] rfl (by (try simp only [List.map_toArray, List.map_cons, List.map_nil]); first | done | rfl | (simp only [List.length_drop, List.length_take]; rfl)) ?_; (with_reducible refine (Zcm.calls k t101 t102 _ _ t103 _ _ l1 _ _ l2 a3 t108 _ ?side1 ?side2 ?side3 ?side4 ?side5 ?side6 A7.out).mono ?_); (case side1 => refine (Kd.R_reads' (e := 5) (base := w.heap.size) (ok := fun k_ => True) (n := t103.length) (c := co11) ?_).2.2; exact (by (with_reducible repeat (first | apply Kd.R_alloc | apply Kd.R_drewN | apply Kd.R_drew)); exact (Kd.R_mono (Kd.R_far (p := ⟨g07, 2, none⟩) (Kd.R_far (p := ⟨g07, 1, none⟩) (Kd.R_far (p := ⟨g07, 0, none⟩) (Kd.R_types HO105.out K07.out (by decide)) (fun _ hk => hk.2) (.int .i64 t101)) (fun _ hk => hk.2) (.int .i64 t102)) (fun _ hk => hk.2) (.slice Ao11 t103.length co11)) (fun _ h_ => h_.1)))); (case side2 => exact (Kd.R_reads' HO105.out).2.1); (case side3 => exact Kd.C_below HR1.out (by with_reducible repeat first | exact HB.out | apply Zac | apply Zaa | apply Zab | refine Zai ?_ E07.out)); (case side4 => exact HC1.out); (case side5 => exact Kd.C_below HR2.out (by with_reducible repeat first | exact HB.out | apply Zac | apply Zaa | apply Zab | refine Zai ?_ E07.out)); (case side6 => exact HC2.out); rintro e w12 ⟨v109, rfl, ho0, hb⟩; refine ⟨_, rfl, ?_⟩; have n0_ := Zad.mk (Kd.R_below (by (with_reducible repeat (first | apply Kd.R_alloc | apply Kd.R_drewN | apply Kd.R_drew)); exact (Kd.R_mono (Kd.R_far (p := ⟨g07, 2, none⟩) (Kd.R_far (p := ⟨g07, 1, none⟩) (Kd.R_far (p := ⟨g07, 0, none⟩) (Kd.R_types HO105.out K07.out (by decide)) (fun _ hk => hk.2) (.int .i64 t101)) (fun _ hk => hk.2) (.int .i64 t102)) (fun _ hk => hk.2) (.slice Ao11 t103.length co11)) (fun _ h_ => h_.1))) hb); have n1_ := Zad.mk (Kd.R_lower ho0 (Zak (by with_reducible repeat first | exact HB.out | apply Zac | apply Zaa | apply Zab | refine Zai ?_ E07.out))); have n2_ := Zad.mk (Zat (g := g07) (o := .cells #[.int .i64 t101, .int .i64 t102, .slice Ao11 t103.length co11] 52 (0, 0)) (by (with_reducible repeat (first | refine Zaf ?_ _ | refine Zaj ?_ | refine Zag ?_ _)); refine Zav (cs := #[.int .i64 t101, .int .i64 t102, .slice none 0 0]) ?_ 2 _ rfl; (with_reducible repeat (first | refine Zaf ?_ _ | refine Zaj ?_ | refine Zag ?_ _)); refine Zav (cs := #[.int .i64 t101, .int .i64 0, .slice none 0 0]) ?_ 1 _ rfl; (with_reducible repeat (first | refine Zaf ?_ _ | refine Zaj ?_ | refine Zag ?_ _)); refine Zav (cs := #[.int .i64 0, .int .i64 0, .slice none 0 0]) ?_ 0 _ rfl; (with_reducible repeat (first | refine Zaf ?_ _ | refine Zaj ?_ | refine Zag ?_ _)); exact K07.out) hb); have n3_ := Zad.mk (Zal (by with_reducible repeat first | exact HB.out | apply Zac | apply Zaa | apply Zab | refine Zai ?_ E07.out) hb); clear HO105; clear K07; clear HB; have HO105 := n0_; have HO110 := n1_; have K07 := n2_; have HB := n3_; obtain ⟨Ao13, co13, eo13⟩ := Kd.R_slice HO110.out; subst eo13))
  go_loopg [32] k (fun kq v32 w' => ∃ (x32_1 : Int), v32 = .int .i64 x32_1 ∧ Zad (Za0.l0 kq t108 t108 (t108.length : Int) x32_1 = some (r1, r2)) ∧ Zad (kq ≤ k) ∧ Zad (Kd.R (Kd.int .i64) 3 w' w.heap.size (fun _ => True) (.slice Ao13 t108.length co13) t108) ∧ Zad (Kd.R (Kd.int .i64) 3 w' w.heap.size (fun _ => True) (.slice Ao13 t108.length co13) t108) ∧ Zad (Kd.R (Kd.int .u8) 5 w' w.heap.size (fun _ => True) (.slice Ao11 t103.length co11) t103) ∧ Zad (w'.heap[g07]? = some (.cells #[.int .i64 t101, .int .i64 t102, (.slice Ao11 t103.length co11)] 52 (0, 0))) ∧ Zad (Below w.heap.size w w'))
  case atStart => exact ⟨(0), (by first | rfl | (simp; done) | (simp [*]; done)), H', ⟨Nat.le_refl _⟩, ⟨by (with_reducible repeat (first | apply Kd.R_alloc | apply Kd.R_drewN | apply Kd.R_drew)); exact HO110.out⟩, ⟨by (with_reducible repeat (first | apply Kd.R_alloc | apply Kd.R_drewN | apply Kd.R_drew)); exact HO110.out⟩, ⟨by (with_reducible repeat (first | apply Kd.R_alloc | apply Kd.R_drewN | apply Kd.R_drew)); exact HO105.out⟩, ⟨by (with_reducible repeat (first | refine Zaf ?_ _ | refine Zaj ?_ | refine Zag ?_ _)); exact K07.out⟩, ⟨by with_reducible repeat first | exact HB.out | apply Zac | apply Zaa | apply Zab | refine Zai ?_ E07.out⟩⟩
  case round =>
   clear H'
   obtain ⟨x32_1, rfl, HA, HK1, HO_12, HO_30, HO_108002, K07, HB⟩ := hrel
   cases gk with
   | zero => exact absurd HA.out (by simp [Za0.l0])
   | succ k1 =>
    have H := HA.out
    clear HA
    simp only [Za0.l0] at H
    by_cases c14 : x32_1 < (t108.length : Int)
    ·rw [if_pos c14] at H
     have c14b0 : decide (x32_1 < (t108.length : Int)) = true := decide_eq_true c14
     clear c14
     by_cases c15 : 0 ≤ x32_1
     ·rw [if_pos c15] at H
      have c15b0 : decide (0 ≤ x32_1) = true := decide_eq_true c15
      clear c15
      by_cases c16 : x32_1 < (t108.length : Int)
      ·rw [if_pos c16] at H
       have c16b0 : decide (x32_1 < (t108.length : Int)) = true := decide_eq_true c16
       clear c16
       have c17b0 := eq_true (of_decide_eq_true (by first | (with_reducible assumption) | assumption) : 0 ≤ x32_1)
       by_cases c18 : x32_1 ≤ (t108.length : Int)
       ·rw [if_pos c18] at H
        have c18b0 := eq_true c18
        have c18b1 : decide (x32_1 ≤ (t108.length : Int)) = true := decide_eq_true c18
        clear c18
        obtain ⟨y112, hy112⟩ : ∃ y_ : List Int, y_ = (t108.take (x32_1 : Int).toNat) := ⟨_, rfl⟩
        replace H : ((Zby.f k1 y112 (rd t108 x32_1)).bind fun t116 => (if t116 = true then (some (false, true)) else (Za0.l0 k1 t108 t108 (t108.length : Int) (wrap64 (x32_1 + 1))))) = some (r1, r2) := by first | (rw [hy112]; with_reducible exact H) | (have H2_ := (Option.bind_some _ _).symm.trans H; rw [hy112]; with_reducible exact H2_) | (have H2_ := (Option.bind_some _ _).symm.trans H; with_reducible exact H2_) | with_reducible exact H | (rw [hy112]; exact H) | exact H
        have Ny112 := Zad.mk hy112
        clear hy112
        replace H := Option.bind_eq_some_iff.mp H
        obtain ⟨t116, A190, H⟩ := H
        replace H : (if t116 = true then (some (false, true)) else (Za0.l0 k1 t108 t108 (t108.length : Int) (wrap64 (x32_1 + 1)))) = some (r1, r2) := H
        have A19 := Zad.mk A190
        clear A190
        by_cases c20 : t116 = true
        ·subst c20
         have H1 : (some (false, true)) = some (r1, r2) := by rw [if_pos rfl] at H; exact H
         clear H
         have H := H1
         clear H1
         simp only [Option.some.injEq, Prod.mk.injEq] at H
         obtain ⟨rfl, rfl⟩ := H
         have p111 : 0 ≤ (x32_1 : Int) := of_decide_eq_true (by first | (with_reducible assumption) | assumption)
         have q111 : x32_1 < (t108.length : Int) := of_decide_eq_true (by first | (with_reducible assumption) | assumption)
         obtain ⟨ad111, e111, hx111_0⟩ := Kd.at_int (Kd.R_reads' HO_30.out).2.2 x32_1 p111 q111
         cases e111
         replace p111 := eq_true p111
         replace q111 := eq_true q111
         have q21 : (x32_1 : Int) ≤ ((t108.length : Int) : Int) := of_decide_eq_true (by first | (with_reducible assumption) | assumption)
         obtain ⟨i021, hi021, _, hsz21, _⟩ := info_parts info3
         have hroom21 : t108.length ≤ co13 := (Kd.R_reads' HO_12.out).2.1
         have hC21 : Kd.C (Kd.int .i64) _ (some ad111) t108.length t108 := (Kd.R_reads' HO_12.out).2.2
         have hcut21 := Zg5 (P := Tryz.prog) 31 3 .i64 Tryz.underlying31 hi021 (some ad111) t108.length co13 x32_1 (of_decide_eq_true (by first | (with_reducible assumption) | assumption)) q21 hroom21
         have hr21 := Kd.C_take (m := (x32_1 : Int).toNat) hC21 (by omega)
         have hy21 : y112.length = (x32_1 : Int).toNat := (by rw [Ny112.out, List.length_take]; omega)
         rw [← Ny112.out] at hr21
         rw [← hy21] at hcut21
         have HR115 := Zad.mk hr21
         have HC115 := Zad.mk (show y112.length ≤ co13 from by omega)
         clear hr21 hC21 hroom21 hi021 hsz21
         have KY21 := Zad.mk hy21
         clear hy21
         have KL21 := Zad.mk (show (x32_1 : Int).toNat ≤ t108.length from by omega)
         replace q21 := eq_true q21
         go_wp2_with (first | ((with_reducible refine Zas (f := 46) rfl ?_); refine Zbg (some 41) rfl rfl Tryz.func46 (by kernel_rfl) rfl #[.slice (some ad111) y112.length co13, .int .i64 (rd t108 x32_1)] rfl (by (try simp only [List.map_toArray, List.map_cons, List.map_nil]); first | done | rfl | (simp only [List.length_drop, List.length_take]; rfl)) ?_; (with_reducible refine (Zby.calls k1 _ _ y112 (rd t108 x32_1) true _ ?side1 ?side2 A19.out).mono ?_); (case side1 => repeat (first | exact (by repeat (first | (with_reducible exact HR115.out) | (with_reducible refine Kd.C_alloc ?_ _) | (with_reducible refine Kd.C_drewN ?_ _) | (with_reducible refine Kd.C_drew ?_) | exact HR115.out)) | (with_reducible refine Kd.C_alloc ?_ _) | (with_reducible refine Kd.C_drewN ?_ _) | (with_reducible refine Kd.C_drew ?_))); (case side2 => exact HC115.out); rintro e w' ⟨rfl, ⟨nd, rfl⟩⟩; refine ⟨_, rfl, ?_⟩))
         go_ret2
         exact ⟨by first | rfl | (simp [Zap, Zao] <;> rfl) | (simp [*, Zap, Zao] <;> rfl), by repeat (first | (with_reducible first | exact HB.out | apply Zac | apply Zaa | apply Zab | refine Zai ?_ E07.out) | exact HB.out)⟩
        ·replace c20 := Bool.eq_false_iff.mpr c20
         subst c20
         have H1 : (Za0.l0 k1 t108 t108 (t108.length : Int) (wrap64 (x32_1 + 1))) = some (r1, r2) := by rw [if_neg (show ¬ (false = true) by decide)] at H; exact H
         clear H
         have H := H1
         clear H1
         have H' := Zad.mk H
         clear H
         have p111 : 0 ≤ (x32_1 : Int) := of_decide_eq_true (by first | (with_reducible assumption) | assumption)
         have q111 : x32_1 < (t108.length : Int) := of_decide_eq_true (by first | (with_reducible assumption) | assumption)
         obtain ⟨ad111, e111, hx111_0⟩ := Kd.at_int (Kd.R_reads' HO_30.out).2.2 x32_1 p111 q111
         cases e111
         replace p111 := eq_true p111
         replace q111 := eq_true q111
         have q22 : (x32_1 : Int) ≤ ((t108.length : Int) : Int) := of_decide_eq_true (by first | (with_reducible assumption) | assumption)
         obtain ⟨i022, hi022, _, hsz22, _⟩ := info_parts info3
         have hroom22 : t108.length ≤ co13 := (Kd.R_reads' HO_12.out).2.1
         have hC22 : Kd.C (Kd.int .i64) _ (some ad111) t108.length t108 := (Kd.R_reads' HO_12.out).2.2
         have hcut22 := Zg5 (P := Tryz.prog) 31 3 .i64 Tryz.underlying31 hi022 (some ad111) t108.length co13 x32_1 (of_decide_eq_true (by first | (with_reducible assumption) | assumption)) q22 hroom22
         have hr22 := Kd.C_take (m := (x32_1 : Int).toNat) hC22 (by omega)
         have hy22 : y112.length = (x32_1 : Int).toNat := (by rw [Ny112.out, List.length_take]; omega)
         rw [← Ny112.out] at hr22
         rw [← hy22] at hcut22
         have HR115 := Zad.mk hr22
         have HC115 := Zad.mk (show y112.length ≤ co13 from by omega)
         clear hr22 hC22 hroom22 hi022 hsz22
         have KY22 := Zad.mk hy22
         clear hy22
         have KL22 := Zad.mk (show (x32_1 : Int).toNat ≤ t108.length from by omega)
         replace q22 := eq_true q22
         go_wp2_with (first | ((with_reducible refine Zas (f := 46) rfl ?_); refine Zbg (some 41) rfl rfl Tryz.func46 (by kernel_rfl) rfl #[.slice (some ad111) y112.length co13, .int .i64 (rd t108 x32_1)] rfl (by (try simp only [List.map_toArray, List.map_cons, List.map_nil]); first | done | rfl | (simp only [List.length_drop, List.length_take]; rfl)) ?_; (with_reducible refine (Zby.calls k1 _ _ y112 (rd t108 x32_1) false _ ?side1 ?side2 A19.out).mono ?_); (case side1 => repeat (first | exact (by repeat (first | (with_reducible exact HR115.out) | (with_reducible refine Kd.C_alloc ?_ _) | (with_reducible refine Kd.C_drewN ?_ _) | (with_reducible refine Kd.C_drew ?_) | exact HR115.out)) | (with_reducible refine Kd.C_alloc ?_ _) | (with_reducible refine Kd.C_drewN ?_ _) | (with_reducible refine Kd.C_drew ?_))); (case side2 => exact HC115.out); rintro e w' ⟨rfl, ⟨nd, rfl⟩⟩; refine ⟨_, rfl, ?_⟩))
         go_roundg k1
         case measure => have := HK1.out; omega
         case rel => exact ⟨(wrap64 (x32_1 + 1)), (by first | rfl | (simp; done) | (simp [*]; done)), H', ⟨by have := HK1.out; omega⟩, ⟨by (with_reducible repeat (first | apply Kd.R_alloc | apply Kd.R_drewN | apply Kd.R_drew)); exact HO_12.out⟩, ⟨by (with_reducible repeat (first | apply Kd.R_alloc | apply Kd.R_drewN | apply Kd.R_drew)); exact HO_30.out⟩, ⟨by (with_reducible repeat (first | apply Kd.R_alloc | apply Kd.R_drewN | apply Kd.R_drew)); exact HO_108002.out⟩, ⟨by (with_reducible repeat (first | refine Zaf ?_ _ | refine Zaj ?_ | refine Zag ?_ _)); exact K07.out⟩, ⟨by with_reducible repeat first | exact HB.out | apply Zac | apply Zaa | apply Zab | refine Zai ?_ E07.out⟩⟩
       ·rw [if_neg c18] at H
        exact absurd H (by simp)
      ·rw [if_neg c16] at H
       exact absurd H (by simp)
     ·rw [if_neg c15] at H
      exact absurd H (by simp)
    ·rw [if_neg c14] at H
     have c14b0 : decide (x32_1 < (t108.length : Int)) = false := decide_eq_false c14
     clear c14
     simp only [Option.some.injEq, Prod.mk.injEq] at H
     obtain ⟨rfl, rfl⟩ := H
     go_wp2
     go_ret2
     exact ⟨by first | rfl | (simp [Zap, Zao] <;> rfl) | (simp [*, Zap, Zao] <;> rfl), by repeat (first | (with_reducible first | exact HB.out | apply Zac | apply Zaa | apply Zab | refine Zai ?_ E07.out) | exact HB.out)⟩
 ·replace c6 := Bool.eq_false_iff.mpr c6
  subst c6
  have H1 : (some (false, false)) = some (r1, r2) := by rw [if_neg (show ¬ (false = true) by decide)] at H; exact H
  clear H
  have H := H1
  clear H1
  simp only [Option.some.injEq, Prod.mk.injEq] at H
  obtain ⟨rfl, rfl⟩ := H
  go_enter Tryz.func17, Tryz.ntmps17
  go_wp2_with (first | ((with_reducible refine Zas (f := 44) rfl ?_); refine Zbg (some 20) rfl rfl Tryz.func44 (by kernel_rfl) rfl #[.string a0, .slice A1 l1.length c1, .slice A2 l2.length c2, .string a3] rfl (by (try simp only [List.map_toArray, List.map_cons, List.map_nil]); first | done | rfl | (simp only [List.length_drop, List.length_take]; rfl)) ?_; (with_reducible refine (Zbw.calls k a0 _ _ l1 _ _ l2 a3 t101 t102 t103 false _ ?side1 ?side2 ?side3 ?side4 A5.out).mono ?_); (case side1 => repeat (first | exact HR1.out | (with_reducible refine Kd.C_alloc ?_ _) | (with_reducible refine Kd.C_drewN ?_ _) | (with_reducible refine Kd.C_drew ?_))); (case side2 => exact HC1.out); (case side3 => repeat (first | exact HR2.out | (with_reducible refine Kd.C_alloc ?_ _) | (with_reducible refine Kd.C_drewN ?_ _) | (with_reducible refine Kd.C_drew ?_))); (case side4 => exact HC2.out); rintro e w23 ⟨v104, rfl, ho0, hb⟩; refine ⟨_, rfl, ?_⟩; have n0_ := Zad.mk (Kd.R_lower ho0 (Zak (by with_reducible repeat first | exact HB.out | apply Zac | apply Zaa | apply Zab))); have n1_ := Zad.mk (Zal (by with_reducible repeat first | exact HB.out | apply Zac | apply Zaa | apply Zab) hb); clear HB; have HO105 := n0_; have HB := n1_) | ((with_reducible refine Zaz (N := 10) rfl ?_); refine Zay ?hg (N := 10) ?hd (cs := #[.int .i64 0, .int .i64 0, .slice none 0 0]) (t := 52) ?hr ?_; (case hd => rfl); (case hg => rfl); (case hr => first | (go_simp; done) | (go_simp; rfl)); intro g07 hg w24 hbox hb; have n0_ := Zad.mk (Kd.R_below (by (with_reducible repeat (first | apply Kd.R_alloc | apply Kd.R_drewN | apply Kd.R_drew)); exact HO105.out) hb); have n1_ := Zad.mk (Zal (by with_reducible repeat first | exact HB.out | apply Zac | apply Zaa | apply Zab) hb); have n2_ := Zad.mk (hbox); have n3_ := Zad.mk ((by rw [hg]; exact (Zak (by with_reducible repeat first | exact HB.out | apply Zac | apply Zaa | apply Zab)) : w.heap.size ≤ g07)); have n4_ := n3_; clear HO105; clear HB; have HO105 := n0_; have HB := n1_; have K07 := n2_; have W07 := n3_; have E07 := n4_; clear hb hbox hg; have hcz25_0 : w24.cell? ⟨g07, 0, none⟩ = some (.int .i64 0) := (Zah K07.out 0).trans rfl; have hcz25_1 : w24.cell? ⟨g07, 1, none⟩ = some (.int .i64 0) := (Zah K07.out 1).trans rfl; have hcz25_2 : w24.cell? ⟨g07, 2, none⟩ = some (.slice none 0 0) := (Zah K07.out 2).trans rfl; have hfz25_0 := Zae K07.out 0; have hfz25_1 := Zae K07.out 1; have hfz25_2 := Zae K07.out 2; obtain ⟨Ao26, co26, eo26⟩ := Kd.R_slice HO105.out; subst eo26))
  go_ret2
  exact ⟨by first | rfl | (simp [Zap, Zao] <;> rfl) | (simp [*, Zap, Zao] <;> rfl), by repeat (first | (with_reducible first | exact HB.out | apply Zac | apply Zaa | apply Zab | refine Zai ?_ E07.out) | exact HB.out)⟩
def Zaw.l0 : Nat → List Int → List Int → Int → Option (List Int)
 | 0, _, _, _ => none
 | k + 1, x0, x3, x4 => if x4 < (x0.length : Int) then (if 0 ≤ x4 then (if x4 < (x3.length : Int) then (Zaw.l0 k x0 (x3.set (x4 : Int).toNat (rd x0 x4)) (wrap64 (x4 + 1))) else (none)) else (none)) else (some x3)
def Zaw.f (k : Nat) (l0 : List Int) : Option (List Int) := if 0 ≤ (l0.length : Int) then (if ((l0.length : Int) : Int).toNat ≤ 35184372088832 then (Zaw.l0 k l0 (List.replicate ((l0.length : Int) : Int).toNat 0) 0) else (none)) else (none)
set_option maxHeartbeats 8000000 in
set_option maxRecDepth 100000 in
theorem Zaw.calls (k : Nat) (A0 : Option Addr) (c0 : Nat) (l0 : List Int) (r : List Int) (w : World) (hr0 : Kd.C (Kd.int .i64) w A0 l0.length l0) (hc0 : l0.length ≤ c0) (h : Zaw.f k l0 = some r) :
  Calls Tryz.prog 18 #[.slice A0 l0.length c0] w fun e w' => ∃ v0_ : Value, e = .returned (v0_) ∧ Kd.R (Kd.int .i64) 3 w' w.heap.size (fun _ => True) v0_ r ∧ Below w.heap.size w w' := by
 have HR0 := Zad.mk hr0
 have HC0 := Zad.mk hc0
 clear hr0 hc0
 have HB := Zad.mk (Below.refl w.heap.size w)
 have H : (if 0 ≤ (l0.length : Int) then (if ((l0.length : Int) : Int).toNat ≤ 35184372088832 then (Zaw.l0 k l0 (List.replicate ((l0.length : Int) : Int).toNat 0) 0) else (none)) else (none)) = some r := h
 clear h
 by_cases c2 : 0 ≤ (l0.length : Int)
 ·rw [if_pos c2] at H
  have c2b0 := eq_true c2
  have c2b1 : decide (0 ≤ (l0.length : Int)) = true := decide_eq_true c2
  clear c2
  by_cases c3 : ((l0.length : Int) : Int).toNat ≤ 35184372088832
  ·rw [if_pos c3] at H
   have c3b0 := eq_true c3
   have c3b1 : decide (((l0.length : Int) : Int).toNat ≤ 35184372088832) = true := decide_eq_true c3
   clear c3
   obtain ⟨y101, hy101⟩ : ∃ y_ : List Int, y_ = (List.replicate ((l0.length : Int) : Int).toNat 0) := ⟨_, rfl⟩
   replace H : (Zaw.l0 k l0 y101 0) = some r := by first | (rw [hy101]; with_reducible exact H) | (have H2_ := (Option.bind_some _ _).symm.trans H; rw [hy101]; with_reducible exact H2_) | (have H2_ := (Option.bind_some _ _).symm.trans H; with_reducible exact H2_) | with_reducible exact H | (rw [hy101]; exact H) | exact H
   have Ny101 := Zad.mk hy101
   clear hy101
   have H' := Zad.mk H
   clear H
   go_enter Tryz.func18, Tryz.ntmps18
   go_wp2_with (first | ((with_reducible refine Zaz (N := 7) rfl ?_); refine Kd.R_make (Kd.int .i64) _ 3 rfl (N := 7) rfl 31 _ _ rfl (l0.length : Int) rfl rfl Tryz.underlying31 (.int .i64 0) 8 info3 rfl (by decide) (by omega) 0 (ok := fun _ => True) (okp := fun _ => True) rfl (fun _ hk => hk) trivial (of_decide_eq_true (by first | (with_reducible assumption) | assumption)) (Nat.le_trans (Nat.mul_le_mul_right _ (of_decide_eq_true (by first | (with_reducible assumption) | assumption) : (l0.length : Int).toNat ≤ 35184372088832)) (by omega)) (Below.refl _ _) (Nat.le_refl _) ?_; intro v102 w4 ho5 hb hg_ hnew_; clear hg_ hnew_; (first | rw [← Ny101.out] at ho5 | (simp only [Int.reduceToNat] at ho5; rw [← Ny101.out] at ho5)); have n0_ := Zad.mk (Kd.R_lower ho5 (Zak (by with_reducible repeat first | exact HB.out | apply Zac | apply Zaa | apply Zab))); have n1_ := Zad.mk (Zal (by with_reducible repeat first | exact HB.out | apply Zac | apply Zaa | apply Zab) hb); clear HB; have HO103 := n0_; have HB := n1_; clear hb ho5))
   go_loopg [4] k (fun kq v4 w' => ∃ (x3_1 : List Int) (x4_1 : Int), v4 = .int .i64 x4_1 ∧ Zad (Zaw.l0 kq l0 x3_1 x4_1 = some r) ∧ Zad (kq ≤ k) ∧ Zad (Kd.R (Kd.int .i64) 3 w' w.heap.size (fun _ => True) v102 x3_1) ∧ Zad (Below w.heap.size w w'))
   case atStart => exact ⟨(y101), (0), (by first | rfl | (simp; done) | (simp [*]; done)), H', ⟨Nat.le_refl _⟩, ⟨by (with_reducible repeat (first | apply Kd.R_alloc | apply Kd.R_drewN | apply Kd.R_drew)); exact HO103.out⟩, ⟨by with_reducible repeat first | exact HB.out | apply Zac | apply Zaa | apply Zab⟩⟩
   case round =>
    clear H'
    obtain ⟨x3_1, x4_1, rfl, HA, HK1, HO_3, HB⟩ := hrel
    cases gk with
    | zero => exact absurd HA.out (by simp [Zaw.l0])
    | succ k1 =>
     have H := HA.out
     clear HA
     simp only [Zaw.l0] at H
     by_cases c6 : x4_1 < (l0.length : Int)
     ·rw [if_pos c6] at H
      have c6b0 : decide (x4_1 < (l0.length : Int)) = true := decide_eq_true c6
      clear c6
      by_cases c7 : 0 ≤ x4_1
      ·rw [if_pos c7] at H
       have c7b0 : decide (0 ≤ x4_1) = true := decide_eq_true c7
       clear c7
       by_cases c8 : x4_1 < (x3_1.length : Int)
       ·rw [if_pos c8] at H
        have c8b0 : decide (x4_1 < (x3_1.length : Int)) = true := decide_eq_true c8
        clear c8
        obtain ⟨y105, hy105⟩ : ∃ y_ : List Int, y_ = (x3_1.set (x4_1 : Int).toNat (rd l0 x4_1)) := ⟨_, rfl⟩
        replace H : (Zaw.l0 k1 l0 y105 (wrap64 (x4_1 + 1))) = some r := by first | (rw [hy105]; with_reducible exact H) | (have H2_ := (Option.bind_some _ _).symm.trans H; rw [hy105]; with_reducible exact H2_) | (have H2_ := (Option.bind_some _ _).symm.trans H; with_reducible exact H2_) | with_reducible exact H | (rw [hy105]; exact H) | exact H
        have Ny105 := Zad.mk hy105
        clear hy105
        have H' := Zad.mk H
        clear H
        have p104 : 0 ≤ (x4_1 : Int) := of_decide_eq_true (by first | (with_reducible assumption) | assumption)
        have q104 : x4_1 < (l0.length : Int) := of_decide_eq_true (by first | (with_reducible assumption) | assumption)
        obtain ⟨ad104, e104, hx104_0⟩ := Kd.at_int HR0.out x4_1 p104 q104
        cases e104
        (first | (replace hx104_0 := (HB.out.cell (World.block_lt_of_cell? w _ hx104_0)).trans hx104_0) | skip)
        replace p104 := eq_true p104
        replace q104 := eq_true q104
        have p9 : 0 ≤ (x4_1 : Int) := of_decide_eq_true (by first | (with_reducible assumption) | assumption)
        have q9 : (x4_1 : Int) < ((x3_1.length : Int) : Int) := of_decide_eq_true (by first | (with_reducible assumption) | assumption)
        obtain ⟨go9, co9, eo9, gb9, gl9, cl9, HG9⟩ := Kd.R_form HO_3.out (by omega)
        (first | cases eo9 | (injection eo9 with ea_ en_ ec_; (first | subst ea_ | (injection ea_ with ea_; subst ea_)); subst ec_; clear en_))
        have GB9 := Zad.mk gb9
        have GG9 := Zad.mk HG9
        clear gb9 gl9 HG9
        obtain ⟨hx9_0, hf9_0⟩ := Kd.R_celln 0 HO_3.out (x4_1 : Int) p9 q9
        replace p9 := eq_true p9
        replace q9 := eq_true q9
        have HP10 := Kd.R_putg HO_3.out (x4_1 : Int) (rd l0 x4_1)
        go_wp2_with (first | ((with_reducible refine Zd8 (t := 3) (p := 20) rfl ?_); refine Zds (t := 3) (p := 20) (v := ?vo_w11) (w1 := (wr.setCell ⟨go9, (x4_1 : Int).toNat, none⟩ (.int .i64 (rd l0 x4_1)))) ?hg ?ho ?hn ?hr ?_; (case ho => rfl); (case hg => rfl); (case hn => rfl); (case hr => first | (go_simp; done) | (go_simp; rfl)); intro w11 hw; have hg : wr.grownBy w11 (some go9) := (by rw [hw]; exact HP10.2); have hp_ : Kd.R (Kd.int .i64) 3 w11 w.heap.size (fun _ => True) (.slice (some ⟨go9, 0, none⟩) x3_1.length co9) y105 := (by rw [hw, Ny105.out]; exact HP10.1); clear HP10; have n0_ := Zad.mk (hp_); have n1_ := Zad.mk ((by rw [hw]; exact Zai (HB.out) GB9.out : Below w.heap.size w w11)); clear HO_3; clear HB; have HO_3 := n0_; have HB := n1_; clear hg hw hp_))
        go_roundg k1
        case measure => have := HK1.out; omega
        case rel => exact ⟨(y105), (wrap64 (x4_1 + 1)), (by first | rfl | (simp; done) | (simp [*]; done)), H', ⟨by have := HK1.out; omega⟩, ⟨by (with_reducible repeat (first | apply Kd.R_alloc | apply Kd.R_drewN | apply Kd.R_drew)); exact HO_3.out⟩, ⟨by with_reducible repeat first | exact HB.out | apply Zac | apply Zaa | apply Zab⟩⟩
       ·rw [if_neg c8] at H
        exact absurd H (by simp)
      ·rw [if_neg c7] at H
       exact absurd H (by simp)
     ·rw [if_neg c6] at H
      have c6b0 : decide (x4_1 < (l0.length : Int)) = false := decide_eq_false c6
      clear c6
      obtain rfl := Option.some.inj H
      go_wp2
      go_ret
      exact ⟨_, by first | rfl | (simp [Zap, Zao] <;> rfl) | (simp [*, Zap, Zao] <;> rfl), by (with_reducible repeat (first | apply Kd.R_alloc | apply Kd.R_drewN | apply Kd.R_drew)); exact HO_3.out, by repeat (first | (with_reducible first | exact HB.out | apply Zac | apply Zaa | apply Zab) | exact HB.out)⟩
  ·rw [if_neg c3] at H
   exact absurd H (by simp)
 ·rw [if_neg c2] at H
  exact absurd H (by simp)
def Zcu.f (a0 : ByteArray) : Option (Bool) := if (a0.size : Int) ≤ 40 then ((Zcl.f a0 (⟨#[117, 114, 100, 108]⟩ : ByteArray)).bind fun t101 => (some (t101.toList == ([] : List UInt8)))) else (some false)
set_option maxHeartbeats 8000000 in
set_option maxRecDepth 100000 in
theorem Zcu.calls (a0 : ByteArray) (r : Bool) (w : World) (h : Zcu.f a0 = some r) :
  Calls Tryz.prog 83 #[.string a0] w fun e w' => e = .returned (.bool r) ∧ Below w.heap.size w w' := by
 have HB := Zad.mk (Below.refl w.heap.size w)
 have H : (if (a0.size : Int) ≤ 40 then ((Zcl.f a0 (⟨#[117, 114, 100, 108]⟩ : ByteArray)).bind fun t101 => (some (t101.toList == ([] : List UInt8)))) else (some false)) = some r := h
 clear h
 by_cases c2 : (a0.size : Int) ≤ 40
 ·rw [if_pos c2] at H
  have c2b0 : decide ((a0.size : Int) ≤ 40) = true := decide_eq_true c2
  have c2b1 : decide (a0.size ≤ 40) = true := decide_eq_true (by omega)
  clear c2
  replace H := Option.bind_eq_some_iff.mp H
  obtain ⟨t101, A30, H⟩ := H
  replace H : (some (t101.toList == ([] : List UInt8))) = some r := H
  have A3 := Zad.mk A30
  clear A30
  obtain rfl := Option.some.inj H
  go_enter Tryz.func83, Tryz.ntmps83
  go_wp2_with (first | (go_at_call 106; (with_reducible refine (Zcl.calls a0 (⟨#[117, 114, 100, 108]⟩ : ByteArray) t101 _ A3.out).mono ?_); rintro e w4 ⟨rfl, hb⟩; have n0_ := Zad.mk (Zal (by with_reducible repeat first | exact HB.out | apply Zac | apply Zaa | apply Zab) hb); clear HB; have HB := n0_))
  go_ret
  exact ⟨by first | rfl | (simp [Zap, Zao] <;> rfl) | (simp [*, Zap, Zao] <;> rfl), by repeat (first | (with_reducible first | exact HB.out | apply Zac | apply Zaa | apply Zab) | exact HB.out)⟩
 ·rw [if_neg c2] at H
  have c2b0 : decide ((a0.size : Int) ≤ 40) = false := decide_eq_false c2
  have c2b1 : decide (a0.size ≤ 40) = false := decide_eq_false (by omega)
  clear c2
  obtain rfl := Option.some.inj H
  go_enter Tryz.func83, Tryz.ntmps83
  go_wp2
  go_ret
  exact ⟨by first | rfl | (simp [Zap, Zao] <;> rfl) | (simp [*, Zap, Zao] <;> rfl), by repeat (first | (with_reducible first | exact HB.out | apply Zac | apply Zaa | apply Zab) | exact HB.out)⟩
attribute [local go_sem] Go.Proofs.YtjohcjkidoalkaaGreatDoor.field_tray0 Go.Proofs.YtjohcjkidoalkaaGreatDoor.field_tray1 Go.Proofs.YtjohcjkidoalkaaGreatDoor.field_tray2
def Zck.f (k : Nat) (t : ByteArray) (l : List Int) : Option Bool := (Za3.f k t).bind fun b => if b = true then (Zcp.f k t).bind fun r => if r.2.2.length < 1000000 then Zdb.f l 0 ((r.2.2.length : Int) - 1) else none else some false
set_option maxHeartbeats 1000000 in
set_option maxRecDepth 100000 in
theorem Zck.calls (k : Nat) (a0 : ByteArray) (A1 : Option Addr) (c1 : Nat) (l1 : List Int) (r : Bool) (w : World) (hr1 : Kd.C (Kd.int .i64) w A1 l1.length l1) (hc1 : l1.length ≤ c1) (h : Zck.f k a0 l1 = some r) :
  Calls Tryz.prog 178 #[.string a0, .slice A1 l1.length c1] w fun e w' => e = .returned (.bool r) ∧ Below w.heap.size w w' := by
 unfold Zck.f at h
 obtain ⟨b, hb, h⟩ := Option.bind_eq_some_iff.mp h
 go_enter Tryz.func178, Tryz.ntmps178
 cases b
 ·simp only [Bool.false_eq_true, if_false, Option.some.injEq] at h
  subst h
  go_wp2_with (go_at_call 68; refine (Za3.calls k a0 false _ hb).mono ?_; rintro e w1 ⟨rfl, hb1⟩)
  go_ret
  exact ⟨rfl, hb1⟩
 ·simp only [if_true] at h
  obtain ⟨⟨t1, t2, l⟩, hread, h⟩ := Option.bind_eq_some_iff.mp h
  simp only at h
  split at h
  case isFalse => cases h
  rename_i hlm
  have hww : wrap64 ((l.length : Int) - 1) = (l.length : Int) - 1 := by unfold wrap64; omega
  have HW := Zad.mk h
  clear h
  go_wp2_with (first
   | (go_at_call 68; refine (Za3.calls k a0 true _ hb).mono ?_; rintro e w1 ⟨rfl, hb1⟩)
   | (go_at_call 69; refine (Zcp.calls2 k a0 t1 t2 l _ hread).mono ?_; rintro e w2 ⟨g, cg, rfl, hcg, hcm, hgb, hgl, hRF2, hb2⟩)
   | (go_at_call 206; refine (Zdb.calls A1 c1 l1 0 ((l.length : Int) - 1) r _ (Kd.C_below (Kd.C_below hr1 hb1) hb2) hc1 HW.out).mono ?_; rintro e w3 ⟨rfl, hb3⟩))
  go_ret
  exact ⟨rfl, (hb1.trans (hb2.mono hb1.size)).trans (hb3.mono (by have := hb1.size; have := hb2.size; omega))⟩
def Zhq (l : List Int) (n : Nat) : Bool := l.all fun x => decide (0 ≤ x) && decide (x < n)
theorem Zi8 {l : List Int} {n : Nat} (h : Zhq l n = true) : ∀ j : Nat, j < l.length → 0 ≤ rd l j ∧ rd l j < n := by
 intro j hj
 have := List.all_eq_true.1 h l[j] (List.getElem_mem _)
 simp only [Bool.and_eq_true, decide_eq_true_eq] at this
 simpa [rd, List.getD_eq_getElem?_getD, List.getElem?_eq_getElem hj] using this
theorem RowF.rdAt {W : World} {g n : Nat} {xs : List Int} (h : RowF W g n xs) (i : Int) (h0 : 0 ≤ i) (h1 : i < xs.length) : W.cell? ⟨g, i.toNat, none⟩ = some (.int .u8 (rd xs i)) := by
 have hlt : i.toNat < xs.length := by omega
 rw [h.cell i.toNat _ (List.getElem?_eq_getElem hlt)]
 simp [rd, List.getD_eq_getElem?_getD, List.getElem?_eq_getElem hlt]
def Zd4 (acc : Int → Bool) (cells l : List Int) : Nat → Nat → Bool
 | _, 0 => true
 | i, m + 1 => if (l.take i).contains (rd l i) = true then false else if acc (rd cells (rd l i)) = true then Zd4 acc cells l (i + 1) m else false
def Zdr (acc : Int → Bool) (k : Nat) (t : ByteArray) (l : List Int) : Option Bool :=
 if inB 1 3 (l.length : Int) = true then (Zck.f k t l).bind fun b => if b = true then (Zcp.f k t).bind fun r => if Zhq l r.2.2.length = true then some (Zd4 acc r.2.2 l 0 l.length) else none else some false else some false
theorem Zhn (c : Int) (w : World) : Calls Tryz.prog 131 #[.int .u8 c] w fun e w' => e = .returned (.bool (c == 46)) ∧ Za2 w w' := by
 go_enter Tryz.func131, Tryz.ntmps131
 go_wp2
 go_ret
 exact ⟨rfl, 0, rfl⟩
theorem Zit (c : Int) (w : World) : Calls Tryz.prog 81 #[.int .u8 c] w fun e w' => e = .returned (.bool (c != 35)) ∧ Za2 w w' := Zfh.calls c _ w rfl
set_option maxHeartbeats 1000000 in
set_option maxRecDepth 100000 in
theorem Zib (k : Nat) (a0 : ByteArray) (A1 : Option Addr) (c1 : Nat) (l1 : List Int) (r : Bool) (w : World) (hr1 : Kd.C (Kd.int .i64) w A1 l1.length l1) (hc1 : l1.length ≤ c1) (h : Zdr (fun c => c != 35) k a0 l1 = some r) :
  Calls Tryz.prog 130 #[.string a0, .slice A1 l1.length c1, .func (.func 81) #[] #[]] w fun e w' => e = .returned (.bool r) ∧ Below w.heap.size w w' := by
 unfold Zdr at h
 go_enter Tryz.func130, Tryz.ntmps130
 split at h
 case isFalse hin =>
  obtain rfl := Option.some.inj h
  have hin2 : inB 1 3 (l1.length : Int) = false := by simpa using hin
  go_wp2_with (go_at_call 157; refine (Zbr.calls (l1.length : Int) 1 3 false _ (by rw [Zdm, hin2])).mono ?_; rintro e w2 ⟨rfl, ⟨nd, rfl⟩⟩)
  go_ret
  exact ⟨rfl, Zaa (Below.refl _ _) nd⟩
 case isTrue hin =>
 obtain ⟨b, hb, h⟩ := Option.bind_eq_some_iff.mp h
 cases b
 ·simp only [Bool.false_eq_true, if_false, Option.some.injEq] at h
  subst h
  go_wp2_with (first
   | (go_at_call 157; refine (Zbr.calls (l1.length : Int) 1 3 true _ (by rw [Zdm, hin])).mono ?_; rintro e w2 ⟨rfl, ⟨nd, rfl⟩⟩)
   | (go_at_call 178; refine (Zck.calls k a0 A1 c1 l1 false _ (Kd.C_drewN hr1 nd) hc1 hb).mono ?_; rintro e w3 ⟨rfl, hb3⟩))
  go_ret
  exact ⟨rfl, (Zaa (Below.refl _ _) nd).trans (hb3.mono (Nat.le_refl _))⟩
 ·simp only [if_true] at h
  obtain ⟨⟨t1, t2, cells⟩, hread, h⟩ := Option.bind_eq_some_iff.mp h
  simp only at h
  split at h
  case isFalse => cases h
  rename_i hal
  have HAL := Zad.mk (Zi8 hal)
  have HG := Zad.mk (Option.some.inj h)
  have hl3 : l1.length ≤ 3 := by
   unfold inB at hin
   rw [Bool.and_eq_true, decide_eq_true_eq, decide_eq_true_eq] at hin
   omega
  clear h hal
  go_wp2_with (first
   | (go_at_call 157; refine (Zbr.calls (l1.length : Int) 1 3 true _ (by rw [Zdm, hin])).mono ?_; rintro e w2 ⟨rfl, ⟨nd, rfl⟩⟩)
   | (go_at_call 178; refine (Zck.calls k a0 A1 c1 l1 true _ (Kd.C_drewN hr1 nd) hc1 hb).mono ?_; rintro e w3 ⟨rfl, hb3⟩))
  have hB3 : Below w.heap.size w w3 := (Zaa (Below.refl _ _) nd).trans (hb3.mono (Nat.le_refl _))
  go_loopw [21] (fun v21 wr => ∃ (i m : Nat), i + m = l1.length ∧ v21 = .int .i64 i ∧ Zad (Zd4 (fun c => c != 35) cells l1 i m = r) ∧ Below w.heap.size w wr)
   (fun v21 _ => l1.length - (intOf v21).toNat)
  case atStart => exact ⟨0, l1.length, by omega, rfl, HG, hB3⟩
  case round =>
   clear hB3 hb3
   obtain ⟨i, m, him, rfl, HGo, hB⟩ := hrel
   cases m with
   | zero =>
    have q1 := eq_false (show ¬ ((i : Int) < (l1.length : Int)) by omega)
    go_wp2
    go_ret
    exact ⟨by rw [← HGo.out]; rfl, hB⟩
   | succ m =>
    have hC := Kd.C_below hr1 hB
    obtain ⟨ad2, e2, hx2⟩ := Kd.at_int hC (i : Int) (by omega) (by omega)
    subst e2
    rw [Int.toNat_natCast] at hx2
    obtain ⟨hk0, hk1⟩ := HAL.out i (by omega)
    have q1 := eq_true (show (i : Int) < (l1.length : Int) by omega)
    have p1 := eq_true (show (0 : Int) ≤ (i : Int) by omega)
    have p2 := eq_true (show (i : Int) ≤ (c1 : Int) by omega)
    have hT : Kd.C (Kd.int .i64) wr (some ad2) (l1.take i).length (l1.take i) := Kd.C_take hC (by omega)
    have htl : (l1.take i).length = i := by rw [List.length_take]; omega
    have HTL := Zad.mk htl
    have hgo := HGo.out
    rw [Zd4] at hgo
    have HGN := Zad.mk hgo
    have hcon := Zcr.calls (some ad2) c1 (l1.take i) (rd l1 i) ((l1.take i).contains (rd l1 i)) wr hT (by omega) rfl
    rw [htl] at hcon
    have HCON := Zad.mk hcon
    clear hgo HGo htl hT hcon
    cases hcb : (l1.take i).contains (rd l1 i)
    ·rw [hcb] at HCON HGN
     have p4 := eq_true hk0
     have q4 := eq_true (show rd l1 i < (cells.length : Int) from hk1)
     cases hac : (rd cells (rd l1 i) != 35)
     ·rw [hac] at HGN
      go_wp2_with (first
       | (go_at_call 179; refine HCON.out.mono ?_; rintro e w4 ⟨rfl, ⟨nd4, rfl⟩⟩)
       | (go_at_call 69; refine (Zcp.calls2 k a0 t1 t2 cells _ hread).mono ?_; rintro e w5 ⟨g, cg, rfl, hcg, hcm, hgb, hgl, hRF, hb5⟩; have hy5 := hRF.rdAt (rd l1 i) hk0 hk1)
       | (go_at_call 81; refine (Zit (rd cells (rd l1 i)) _).mono ?_; rintro e w6 ⟨rfl, ⟨nd6, rfl⟩⟩; rw [hac]))
      have hB6 : Below w.heap.size w w5 := (Zaa hB nd4).trans (hb5.mono (by have := hB.size; exact this))
      go_ret
      exact ⟨by rw [← HGN.out]; rfl, Zaa hB6 nd6⟩
     ·rw [hac] at HGN
      go_wp2_with (first
       | (go_at_call 179; refine HCON.out.mono ?_; rintro e w4 ⟨rfl, ⟨nd4, rfl⟩⟩)
       | (go_at_call 69; refine (Zcp.calls2 k a0 t1 t2 cells _ hread).mono ?_; rintro e w5 ⟨g, cg, rfl, hcg, hcm, hgb, hgl, hRF, hb5⟩; have hy5 := hRF.rdAt (rd l1 i) hk0 hk1)
       | (go_at_call 81; refine (Zit (rd cells (rd l1 i)) _).mono ?_; rintro e w6 ⟨rfl, ⟨nd6, rfl⟩⟩; rw [hac]))
      have hB6 : Below w.heap.size w w5 := (Zaa hB nd4).trans (hb5.mono (by have := hB.size; exact this))
      refine ⟨⟨i + 1, m, by omega, by simp, ⟨by rw [← HGN.out]; rfl⟩, Zaa hB6 nd6⟩, ?_⟩
      simp [intOf]; omega
    ·rw [hcb] at HCON HGN
     go_wp2_with (go_at_call 179; refine HCON.out.mono ?_; rintro e w4 ⟨rfl, ⟨nd4, rfl⟩⟩)
     go_ret
     exact ⟨by rw [← HGN.out]; rfl, Zaa hB nd4⟩
def Za7.f (k : Nat) (t : ByteArray) (l : List Int) : Option Bool := Zdr (fun c => c != 35) k t l
theorem Za7.calls (k : Nat) (a0 : ByteArray) (A1 : Option Addr) (c1 : Nat) (l1 : List Int) (r : Bool) (w : World) (hr1 : Kd.C (Kd.int .i64) w A1 l1.length l1) (hc1 : l1.length ≤ c1) (h : Za7.f k a0 l1 = some r) :
  Calls Tryz.prog 130 #[.string a0, .slice A1 l1.length c1, .func (.func 81) #[] #[]] w fun e w' => e = .returned (.bool r) ∧ Below w.heap.size w w' := Zib k a0 A1 c1 l1 r w hr1 hc1 h
set_option maxHeartbeats 1000000 in
set_option maxRecDepth 100000 in
theorem Zic (k : Nat) (a0 : ByteArray) (A1 : Option Addr) (c1 : Nat) (l1 : List Int) (r : Bool) (w : World) (hr1 : Kd.C (Kd.int .i64) w A1 l1.length l1) (hc1 : l1.length ≤ c1) (h : Zdr (fun c => c == 46) k a0 l1 = some r) :
  Calls Tryz.prog 130 #[.string a0, .slice A1 l1.length c1, .func (.func 131) #[] #[]] w fun e w' => e = .returned (.bool r) ∧ Below w.heap.size w w' := by
 unfold Zdr at h
 go_enter Tryz.func130, Tryz.ntmps130
 split at h
 case isFalse hin =>
  obtain rfl := Option.some.inj h
  have hin2 : inB 1 3 (l1.length : Int) = false := by simpa using hin
  go_wp2_with (go_at_call 157; refine (Zbr.calls (l1.length : Int) 1 3 false _ (by rw [Zdm, hin2])).mono ?_; rintro e w2 ⟨rfl, ⟨nd, rfl⟩⟩)
  go_ret
  exact ⟨rfl, Zaa (Below.refl _ _) nd⟩
 case isTrue hin =>
 obtain ⟨b, hb, h⟩ := Option.bind_eq_some_iff.mp h
 cases b
 ·simp only [Bool.false_eq_true, if_false, Option.some.injEq] at h
  subst h
  go_wp2_with (first
   | (go_at_call 157; refine (Zbr.calls (l1.length : Int) 1 3 true _ (by rw [Zdm, hin])).mono ?_; rintro e w2 ⟨rfl, ⟨nd, rfl⟩⟩)
   | (go_at_call 178; refine (Zck.calls k a0 A1 c1 l1 false _ (Kd.C_drewN hr1 nd) hc1 hb).mono ?_; rintro e w3 ⟨rfl, hb3⟩))
  go_ret
  exact ⟨rfl, (Zaa (Below.refl _ _) nd).trans (hb3.mono (Nat.le_refl _))⟩
 ·simp only [if_true] at h
  obtain ⟨⟨t1, t2, cells⟩, hread, h⟩ := Option.bind_eq_some_iff.mp h
  simp only at h
  split at h
  case isFalse => cases h
  rename_i hal
  have HAL := Zad.mk (Zi8 hal)
  have HG := Zad.mk (Option.some.inj h)
  have hl3 : l1.length ≤ 3 := by
   unfold inB at hin
   rw [Bool.and_eq_true, decide_eq_true_eq, decide_eq_true_eq] at hin
   omega
  clear h hal
  go_wp2_with (first
   | (go_at_call 157; refine (Zbr.calls (l1.length : Int) 1 3 true _ (by rw [Zdm, hin])).mono ?_; rintro e w2 ⟨rfl, ⟨nd, rfl⟩⟩)
   | (go_at_call 178; refine (Zck.calls k a0 A1 c1 l1 true _ (Kd.C_drewN hr1 nd) hc1 hb).mono ?_; rintro e w3 ⟨rfl, hb3⟩))
  have hB3 : Below w.heap.size w w3 := (Zaa (Below.refl _ _) nd).trans (hb3.mono (Nat.le_refl _))
  go_loopw [21] (fun v21 wr => ∃ (i m : Nat), i + m = l1.length ∧ v21 = .int .i64 i ∧ Zad (Zd4 (fun c => c == 46) cells l1 i m = r) ∧ Below w.heap.size w wr)
   (fun v21 _ => l1.length - (intOf v21).toNat)
  case atStart => exact ⟨0, l1.length, by omega, rfl, HG, hB3⟩
  case round =>
   clear hB3 hb3
   obtain ⟨i, m, him, rfl, HGo, hB⟩ := hrel
   cases m with
   | zero =>
    have q1 := eq_false (show ¬ ((i : Int) < (l1.length : Int)) by omega)
    go_wp2
    go_ret
    exact ⟨by rw [← HGo.out]; rfl, hB⟩
   | succ m =>
    have hC := Kd.C_below hr1 hB
    obtain ⟨ad2, e2, hx2⟩ := Kd.at_int hC (i : Int) (by omega) (by omega)
    subst e2
    rw [Int.toNat_natCast] at hx2
    obtain ⟨hk0, hk1⟩ := HAL.out i (by omega)
    have q1 := eq_true (show (i : Int) < (l1.length : Int) by omega)
    have p1 := eq_true (show (0 : Int) ≤ (i : Int) by omega)
    have p2 := eq_true (show (i : Int) ≤ (c1 : Int) by omega)
    have hT : Kd.C (Kd.int .i64) wr (some ad2) (l1.take i).length (l1.take i) := Kd.C_take hC (by omega)
    have htl : (l1.take i).length = i := by rw [List.length_take]; omega
    have HTL := Zad.mk htl
    have hgo := HGo.out
    rw [Zd4] at hgo
    have HGN := Zad.mk hgo
    have hcon := Zcr.calls (some ad2) c1 (l1.take i) (rd l1 i) ((l1.take i).contains (rd l1 i)) wr hT (by omega) rfl
    rw [htl] at hcon
    have HCON := Zad.mk hcon
    clear hgo HGo htl hT hcon
    cases hcb : (l1.take i).contains (rd l1 i)
    ·rw [hcb] at HCON HGN
     have p4 := eq_true hk0
     have q4 := eq_true (show rd l1 i < (cells.length : Int) from hk1)
     cases hac : (rd cells (rd l1 i) == 46)
     ·rw [hac] at HGN
      go_wp2_with (first
       | (go_at_call 179; refine HCON.out.mono ?_; rintro e w4 ⟨rfl, ⟨nd4, rfl⟩⟩)
       | (go_at_call 69; refine (Zcp.calls2 k a0 t1 t2 cells _ hread).mono ?_; rintro e w5 ⟨g, cg, rfl, hcg, hcm, hgb, hgl, hRF, hb5⟩; have hy5 := hRF.rdAt (rd l1 i) hk0 hk1)
       | (go_at_call 131; refine (Zhn (rd cells (rd l1 i)) _).mono ?_; rintro e w6 ⟨rfl, ⟨nd6, rfl⟩⟩; rw [hac]))
      have hB6 : Below w.heap.size w w5 := (Zaa hB nd4).trans (hb5.mono (by have := hB.size; exact this))
      go_ret
      exact ⟨by rw [← HGN.out]; rfl, Zaa hB6 nd6⟩
     ·rw [hac] at HGN
      go_wp2_with (first
       | (go_at_call 179; refine HCON.out.mono ?_; rintro e w4 ⟨rfl, ⟨nd4, rfl⟩⟩)
       | (go_at_call 69; refine (Zcp.calls2 k a0 t1 t2 cells _ hread).mono ?_; rintro e w5 ⟨g, cg, rfl, hcg, hcm, hgb, hgl, hRF, hb5⟩; have hy5 := hRF.rdAt (rd l1 i) hk0 hk1)
       | (go_at_call 131; refine (Zhn (rd cells (rd l1 i)) _).mono ?_; rintro e w6 ⟨rfl, ⟨nd6, rfl⟩⟩; rw [hac]))
      have hB6 : Below w.heap.size w w5 := (Zaa hB nd4).trans (hb5.mono (by have := hB.size; exact this))
      refine ⟨⟨i + 1, m, by omega, by simp, ⟨by rw [← HGN.out]; rfl⟩, Zaa hB6 nd6⟩, ?_⟩
      simp [intOf]; omega
    ·rw [hcb] at HCON HGN
     go_wp2_with (go_at_call 179; refine HCON.out.mono ?_; rintro e w4 ⟨rfl, ⟨nd4, rfl⟩⟩)
     go_ret
     exact ⟨by rw [← HGN.out]; rfl, Zaa hB nd4⟩
def Zbd.f (k : Nat) (t : ByteArray) (l : List Int) : Option Bool := Zdr (fun c => c == 46) k t l
theorem Zbd.calls (k : Nat) (a0 : ByteArray) (A1 : Option Addr) (c1 : Nat) (l1 : List Int) (r : Bool) (w : World) (hr1 : Kd.C (Kd.int .i64) w A1 l1.length l1) (hc1 : l1.length ≤ c1) (h : Zbd.f k a0 l1 = some r) :
  Calls Tryz.prog 130 #[.string a0, .slice A1 l1.length c1, .func (.func 131) #[] #[]] w fun e w' => e = .returned (.bool r) ∧ Below w.heap.size w w' := Zic k a0 A1 c1 l1 r w hr1 hc1 h
def Zdf.f (k : Nat) (a0 : ByteArray) (l1 : List Int) (l2 : List Int) : Option (Bool) := (Za3.f k a0).bind fun t101 => (if t101 = true then ((Zbd.f k a0 l1).bind fun t102 => (if t102 = true then ((Za7.f k a0 l2).bind fun t103 => (some t103)) else (some false))) else (some false))
set_option maxHeartbeats 8000000 in
set_option maxRecDepth 100000 in
theorem Zdf.calls (k : Nat) (a0 : ByteArray) (A1 : Option Addr) (c1 : Nat) (l1 : List Int) (A2 : Option Addr) (c2 : Nat) (l2 : List Int) (r : Bool) (w : World) (hr1 : Kd.C (Kd.int .i64) w A1 l1.length l1) (hc1 : l1.length ≤ c1) (hr2 : Kd.C (Kd.int .i64) w A2 l2.length l2) (hc2 : l2.length ≤ c2) (h : Zdf.f k a0 l1 l2 = some r) :
  Calls Tryz.prog 92 #[.string a0, .slice A1 l1.length c1, .slice A2 l2.length c2] w fun e w' => e = .returned (.bool r) ∧ Below w.heap.size w w' := by
 have HR1 := Zad.mk hr1
 have HC1 := Zad.mk hc1
 clear hr1 hc1
 have HR2 := Zad.mk hr2
 have HC2 := Zad.mk hc2
 clear hr2 hc2
 have HB := Zad.mk (Below.refl w.heap.size w)
 have H : ((Za3.f k a0).bind fun t101 => (if t101 = true then ((Zbd.f k a0 l1).bind fun t102 => (if t102 = true then ((Za7.f k a0 l2).bind fun t103 => (some t103)) else (some false))) else (some false))) = some r := h
 clear h
 replace H := Option.bind_eq_some_iff.mp H
 obtain ⟨t101, A40, H⟩ := H
 replace H : (if t101 = true then ((Zbd.f k a0 l1).bind fun t102 => (if t102 = true then ((Za7.f k a0 l2).bind fun t103 => (some t103)) else (some false))) else (some false)) = some r := H
 have A4 := Zad.mk A40
 clear A40
 by_cases c5 : t101 = true
 ·subst c5
  have H1 : ((Zbd.f k a0 l1).bind fun t102 => (if t102 = true then ((Za7.f k a0 l2).bind fun t103 => (some t103)) else (some false))) = some r := by rw [if_pos rfl] at H; exact H
  clear H
  have H := H1
  clear H1
  replace H := Option.bind_eq_some_iff.mp H
  obtain ⟨t102, A60, H⟩ := H
  replace H : (if t102 = true then ((Za7.f k a0 l2).bind fun t103 => (some t103)) else (some false)) = some r := H
  have A6 := Zad.mk A60
  clear A60
  by_cases c7 : t102 = true
  ·subst c7
   have H1 : ((Za7.f k a0 l2).bind fun t103 => (some t103)) = some r := by rw [if_pos rfl] at H; exact H
   clear H
   have H := H1
   clear H1
   replace H := Option.bind_eq_some_iff.mp H
   obtain ⟨t103, A80, H⟩ := H
   replace H : (some t103) = some r := H
   have A8 := Zad.mk A80
   clear A80
   obtain rfl := Option.some.inj H
   go_enter Tryz.func92, Tryz.ntmps92
   go_wp2_with (first | ((with_reducible refine Zas (f := 68) rfl ?_); refine Zbg (some 8) rfl rfl Tryz.func68 (by kernel_rfl) rfl #[.string a0] rfl (by (try simp only [List.map_toArray, List.map_cons, List.map_nil]); first | done | rfl | (simp only [List.length_drop, List.length_take]; rfl)) ?_; (with_reducible refine (Za3.calls k a0 true _ A4.out).mono ?_); rintro e w9 ⟨rfl, hb⟩; refine ⟨_, rfl, ?_⟩; have n0_ := Zad.mk (Zal (by with_reducible repeat first | exact HB.out | apply Zac | apply Zaa | apply Zab) hb); clear HB; have HB := n0_) | (go_at_call 130; (with_reducible refine (Zbd.calls k a0 _ _ l1 true _ ?side1 ?side2 A6.out).mono ?_); (case side1 => repeat (first | exact (Kd.C_below HR1.out HB.out) | (with_reducible refine Kd.C_alloc ?_ _) | (with_reducible refine Kd.C_drewN ?_ _) | (with_reducible refine Kd.C_drew ?_))); (case side2 => exact HC1.out); rintro e w10 ⟨rfl, hb⟩; have n0_ := Zad.mk (Zal (by with_reducible repeat first | exact HB.out | apply Zac | apply Zaa | apply Zab) hb); clear HB; have HB := n0_) | (go_at_call 130; (with_reducible refine (Za7.calls k a0 _ _ l2 t103 _ ?side1 ?side2 A8.out).mono ?_); (case side1 => repeat (first | exact (Kd.C_below HR2.out HB.out) | (with_reducible refine Kd.C_alloc ?_ _) | (with_reducible refine Kd.C_drewN ?_ _) | (with_reducible refine Kd.C_drew ?_))); (case side2 => exact HC2.out); rintro e w11 ⟨rfl, hb⟩; have n0_ := Zad.mk (Zal (by with_reducible repeat first | exact HB.out | apply Zac | apply Zaa | apply Zab) hb); clear HB; have HB := n0_))
   go_ret
   exact ⟨by first | rfl | (simp [Zap, Zao] <;> rfl) | (simp [*, Zap, Zao] <;> rfl), by repeat (first | (with_reducible first | exact HB.out | apply Zac | apply Zaa | apply Zab) | exact HB.out)⟩
  ·replace c7 := Bool.eq_false_iff.mpr c7
   subst c7
   have H1 : (some false) = some r := by rw [if_neg (show ¬ (false = true) by decide)] at H; exact H
   clear H
   have H := H1
   clear H1
   obtain rfl := Option.some.inj H
   go_enter Tryz.func92, Tryz.ntmps92
   go_wp2_with (first | ((with_reducible refine Zas (f := 68) rfl ?_); refine Zbg (some 8) rfl rfl Tryz.func68 (by kernel_rfl) rfl #[.string a0] rfl (by (try simp only [List.map_toArray, List.map_cons, List.map_nil]); first | done | rfl | (simp only [List.length_drop, List.length_take]; rfl)) ?_; (with_reducible refine (Za3.calls k a0 true _ A4.out).mono ?_); rintro e w12 ⟨rfl, hb⟩; refine ⟨_, rfl, ?_⟩; have n0_ := Zad.mk (Zal (by with_reducible repeat first | exact HB.out | apply Zac | apply Zaa | apply Zab) hb); clear HB; have HB := n0_) | (go_at_call 130; (with_reducible refine (Zbd.calls k a0 _ _ l1 false _ ?side1 ?side2 A6.out).mono ?_); (case side1 => repeat (first | exact (Kd.C_below HR1.out HB.out) | (with_reducible refine Kd.C_alloc ?_ _) | (with_reducible refine Kd.C_drewN ?_ _) | (with_reducible refine Kd.C_drew ?_))); (case side2 => exact HC1.out); rintro e w13 ⟨rfl, hb⟩; have n0_ := Zad.mk (Zal (by with_reducible repeat first | exact HB.out | apply Zac | apply Zaa | apply Zab) hb); clear HB; have HB := n0_))
   go_ret
   exact ⟨by first | rfl | (simp [Zap, Zao] <;> rfl) | (simp [*, Zap, Zao] <;> rfl), by repeat (first | (with_reducible first | exact HB.out | apply Zac | apply Zaa | apply Zab) | exact HB.out)⟩
 ·replace c5 := Bool.eq_false_iff.mpr c5
  subst c5
  have H1 : (some false) = some r := by rw [if_neg (show ¬ (false = true) by decide)] at H; exact H
  clear H
  have H := H1
  clear H1
  obtain rfl := Option.some.inj H
  go_enter Tryz.func92, Tryz.ntmps92
  go_wp2_with (first | ((with_reducible refine Zas (f := 68) rfl ?_); refine Zbg (some 8) rfl rfl Tryz.func68 (by kernel_rfl) rfl #[.string a0] rfl (by (try simp only [List.map_toArray, List.map_cons, List.map_nil]); first | done | rfl | (simp only [List.length_drop, List.length_take]; rfl)) ?_; (with_reducible refine (Za3.calls k a0 false _ A4.out).mono ?_); rintro e w14 ⟨rfl, hb⟩; refine ⟨_, rfl, ?_⟩; have n0_ := Zad.mk (Zal (by with_reducible repeat first | exact HB.out | apply Zac | apply Zaa | apply Zab) hb); clear HB; have HB := n0_))
  go_ret
  exact ⟨by first | rfl | (simp [Zap, Zao] <;> rfl) | (simp [*, Zap, Zao] <;> rfl), by repeat (first | (with_reducible first | exact HB.out | apply Zac | apply Zaa | apply Zab) | exact HB.out)⟩
def allGo (k : Nat) : List Int → Int → Int → List Int → Option (Int × Int × List Int)
 | [], a0, a1, l => some (a0, a1, l)
 | d :: ds, a0, a1, l => (Zcg.f k a0 a1 l d).bind fun r => allGo k ds r.1 r.2.1 r.2.2
def Zb5.f (k : Nat) (a0_0 a0_1 : Int) (l0_2 : List Int) (a1 : ByteArray) : Option (Int × Int × List Int) := if a1.size < 1000000 then allGo k (bytesOf a1) a0_0 a0_1 l0_2 else none
set_option maxHeartbeats 1000000 in
set_option maxRecDepth 100000 in
theorem Zb5.calls (k : Nat) (a0_0 : Int) (a0_1 : Int) (A0_2 : Option Addr) (c0_2 : Nat) (l0_2 : List Int) (a1 : ByteArray) (r1 : Int) (r2 : Int) (r3 : List Int) (w : World) (hr0_2 : Kd.C (Kd.int .u8) w A0_2 l0_2.length l0_2) (hc0_2 : l0_2.length ≤ c0_2) (h : Zb5.f k a0_0 a0_1 l0_2 a1 = some (r1, r2, r3)) :
  Calls Tryz.prog 132 #[.agg #[.int .i64 a0_0, .int .i64 a0_1, .slice A0_2 l0_2.length c0_2], .string a1] w fun e w' => ∃ (A : Option Addr) (c : Nat), e = .returned (.agg #[.int .i64 r1, .int .i64 r2, .slice A r3.length c]) ∧ r3.length ≤ c ∧ Kd.C (Kd.int .u8) w' A r3.length r3 ∧ ((A = A0_2 ∧ r3 = l0_2) ∨ ∀ ad, A = some ad → 0 < r3.length → w.heap.size ≤ ad.block) ∧ Below w.heap.size w w' := by
 unfold Zb5.f at h
 split at h
 case isFalse => cases h
 rename_i hsz
 have HG := Zad.mk h
 clear h
 have hcv := fun (w : World) (s : ByteArray) => Lib.run_convert_string_bytes (P := Tryz.prog) w 9 50 5 s Tryz.underlying9 Tryz.underlying50 Tryz.underlying5
 go_enter Tryz.func132, Tryz.ntmps132
 go_wp2
 obtain ⟨w0, hw0⟩ : ∃ w0, (w.alloc (.cells #[.int .i64 a0_0, .int .i64 a0_1, .slice A0_2 l0_2.length c0_2] 93)).alloc (.cells #[.int .i64 0, .int .i64 0, .slice none 0 0] 93) = w0 := ⟨_, rfl⟩
 have e0 : w0.heap.size = w.heap.size + 2 := by rw [← hw0]; simp
 have BT0 : w0.heap[w.heap.size]? = some (.cells #[.int .i64 a0_0, .int .i64 a0_1, .slice A0_2 l0_2.length c0_2] 93 (0, 0)) := by
  rw [← hw0, Below.heap_alloc _ _ _ (by simp)]
  simpa using heap_alloc_new w _
 have BR0 : w0.heap[w.heap.size + 1]? = some (.cells #[.int .i64 0, .int .i64 0, .slice none 0 0] 93 (0, 0)) := by
  rw [← hw0]
  have := heap_alloc_new (w.alloc (.cells #[.int .i64 a0_0, .int .i64 a0_1, .slice A0_2 l0_2.length c0_2] 93)) (.cells #[.int .i64 0, .int .i64 0, .slice none 0 0] 93)
  simpa using this
 have hB0 : Below w.heap.size w w0 := by rw [← hw0]; exact ((Below.refl _ _).alloc (Nat.le_refl _) _).alloc (by simp) _
 rw [hw0]
 clear hw0
 obtain ⟨Wa, hWa⟩ : ∃ Wa, Lib.bytesWorld w0 5 a1 = Wa := ⟨_, rfl⟩
 rw [hWa]
 have hBa : Below w.heap.size w Wa := by
  rw [← hWa]
  exact hB0.trans ((Lib.bytesWorld_below _ _ _).mono (by omega))
 have hsza : Wa.heap.size = w.heap.size + 3 := by rw [← hWa, Lib.bytesWorld_size]; omega
 have BT : Wa.heap[w.heap.size]? = some (.cells #[.int .i64 a0_0, .int .i64 a0_1, .slice A0_2 l0_2.length c0_2] 93 (0, 0)) := by
  rw [← hWa, Lib.bytesWorld_at_old _ _ _ _ (by omega)]; exact BT0
 have BR : Wa.heap[w.heap.size + 1]? = some (.cells #[.int .i64 0, .int .i64 0, .slice none 0 0] 93 (0, 0)) := by
  rw [← hWa, Lib.bytesWorld_at_old _ _ _ _ (by omega)]; exact BR0
 have hby : ∀ j : Nat, j < a1.size → Wa.cell? ⟨w.heap.size + 2, j, none⟩ = some (.int .u8 (rd (bytesOf a1) j)) := by
  intro j hj
  have := Lib.bytesWorld_cell w0 5 a1 j hj
  rw [hWa, e0] at this
  rw [this]
  simp [rd, bytesOf, List.getD_eq_getElem?_getD, hj]
 have hC1 : Kd.C (Kd.int .u8) Wa A0_2 l0_2.length l0_2 := Kd.C_below hr0_2 hBa
 clear hWa hcv BT0 BR0 hB0 e0
 have HBY := Zad.mk hby
 have HSZ := Zad.mk hsz
 clear hby hsz
 go_loopw [10] (fun v10 wr => ∃ (i : Nat) (p1 p2 : Int) (A : Option Addr) (c : Nat) (l : List Int), i ≤ a1.size ∧ v10 = .int .i64 i ∧ Zad (allGo k ((bytesOf a1).drop i) p1 p2 l = some (r1, r2, r3)) ∧ wr.heap[w.heap.size]? = some (.cells #[.int .i64 p1, .int .i64 p2, .slice A l.length c] 93 (0, 0)) ∧ wr.heap[w.heap.size + 1]? = some (.cells #[.int .i64 0, .int .i64 0, .slice none 0 0] 93 (0, 0)) ∧ wr.heap[w.heap.size + 2]? = Wa.heap[w.heap.size + 2]? ∧ w.heap.size + 3 ≤ wr.heap.size ∧ l.length ≤ c ∧ Kd.C (Kd.int .u8) wr A l.length l ∧ ((A = A0_2 ∧ l = l0_2) ∨ ∀ ad, A = some ad → 0 < l.length → w.heap.size + 3 ≤ ad.block) ∧ Below w.heap.size w wr)
  (fun v10 _ => a1.size - (intOf v10).toNat)
 case atStart => exact ⟨0, a0_0, a0_1, A0_2, c0_2, l0_2, Nat.zero_le _, rfl, HG, BT, BR, rfl, by omega, hc0_2, hC1, .inl ⟨rfl, rfl⟩, hBa⟩
 case round =>
  clear BT BR hBa hC1
  obtain ⟨i, p1, p2, A, c, l, hi, rfl, HGo, BT, BR, BY, hszr, hlc, hC, hA, hB⟩ := hrel
  have hz0 : wr.cell? ⟨w.heap.size, 0, none⟩ = some (.int .i64 p1) := (Zah BT 0).trans rfl
  have hz1 : wr.cell? ⟨w.heap.size, 1, none⟩ = some (.int .i64 p2) := (Zah BT 1).trans rfl
  have hz2 : wr.cell? ⟨w.heap.size, 2, none⟩ = some (.slice A l.length c) := (Zah BT 2).trans rfl
  have hbl : (bytesOf a1).length = a1.size := Zcc a1
  rcases Nat.lt_or_eq_of_le hi with hlt | heq
  ·have hy := (Zew BY i).trans (HBY.out i hlt)
   have hdr : (bytesOf a1).drop i = rd (bytesOf a1) i :: (bytesOf a1).drop (i + 1) := by
    rw [List.drop_eq_getElem_cons (by omega)]
    simp [rd, List.getD_eq_getElem?_getD, List.getElem?_eq_getElem (show i < (bytesOf a1).length by omega)]
   have hgo := HGo.out
   rw [hdr] at hgo
   simp only [allGo] at hgo
   obtain ⟨⟨n1, n2, l2⟩, ht, hgo⟩ := Option.bind_eq_some_iff.mp hgo
   have q1 := eq_true (show (i : Int) < (a1.size : Int) by omega)
   have q2 := eq_true (show (0 : Int) ≤ (i : Int) by omega)
   have HT := Zad.mk ht
   have HGN := Zad.mk hgo
   have hw : wrap64 ((i : Int) + 1) = ((i + 1 : Nat) : Int) := by have := HSZ.out; unfold wrap64; omega
   have HW := Zad.mk hw
   clear ht hgo hdr HGo hbl hw
   go_wp2_with (go_at_call 70; refine (Zcg.calls k p1 p2 A c l (rd (bytesOf a1) i) n1 n2 l2 _ hC hlc HT.out).mono ?_; rintro e w2 ⟨v2, rfl, hR2, hb3⟩; obtain ⟨A2, c2, rfl⟩ := Kd.R_slice hR2; have BT2 := (hb3.block _ (show w.heap.size < wr.heap.size by omega)).trans BT; have y0 : w2.cell? ⟨w.heap.size, 0, none⟩ = some (.int .i64 p1) := (Zah BT2 0).trans rfl; have y1 : w2.cell? ⟨w.heap.size, 1, none⟩ = some (.int .i64 p2) := (Zah BT2 1).trans rfl; have y2 : w2.cell? ⟨w.heap.size, 2, none⟩ = some (.slice A l.length c) := (Zah BT2 2).trans rfl; have f0 := Zae BT2 0; have f1 := Zae BT2 1; have f2 := Zae BT2 2)
   have BR2 := (hb3.block _ (show w.heap.size + 1 < wr.heap.size by omega)).trans BR
   have BY2 := (hb3.block _ (show w.heap.size + 2 < wr.heap.size by omega)).trans BY
   have hR3 := Kd.R_reads' hR2
   have hne : ∀ ad, A2 = some ad → 0 < l2.length → w.heap.size + 3 ≤ ad.block := by
    intro ad had hl
    obtain ⟨g, cap, eg, hgb, _⟩ := Kd.R_form hR2 hl
    injection eg with eg _ _
    rw [had] at eg
    injection eg with eg
    subst eg
    show w.heap.size + 3 ≤ g
    omega
   have hK : Zc1 w2 (((w2.setCell ⟨w.heap.size, 0, none⟩ (.int .i64 n1)).setCell ⟨w.heap.size, 1, none⟩ (.int .i64 n2)).setCell ⟨w.heap.size, 2, none⟩ (.slice A2 l2.length c2)) w.heap.size none := (((Zc1.refl w2 _ _).set_ 0 _).set_ 1 _).set_ 2 _
   have hC2 := C_box hR3.2.2 hK (fun ad had hl => by have := hne ad had hl; omega)
   have BT3 : (((w2.setCell ⟨w.heap.size, 0, none⟩ (.int .i64 n1)).setCell ⟨w.heap.size, 1, none⟩ (.int .i64 n2)).setCell ⟨w.heap.size, 2, none⟩ (.slice A2 l2.length c2)).heap[w.heap.size]? = some (.cells #[.int .i64 n1, .int .i64 n2, .slice A2 l2.length c2] 93 (0, 0)) := by
    refine Zav (cs := #[.int .i64 n1, .int .i64 n2, .slice A l.length c]) ?_ 2 _ rfl
    refine Zav (cs := #[.int .i64 n1, .int .i64 p2, .slice A l.length c]) ?_ 1 _ rfl
    exact Zav (cs := #[.int .i64 p1, .int .i64 p2, .slice A l.length c]) BT2 0 _ rfl
   have hsz2 := hb3.size
   have BR3 := (hK.2 (w.heap.size + 1) (by omega) (by omega) (by simp)).trans BR2
   have BY3 := (hK.2 (w.heap.size + 2) (by omega) (by omega) (by simp)).trans BY2
   have hB2 : Below w.heap.size w w2 := hB.trans (hb3.mono (by omega))
   have hsz3 := hK.1
   go_roundw
   case rel => exact ⟨i + 1, n1, n2, A2, c2, l2, by omega, by rw [HW.out], HGN, BT3, BR3, BY3, by omega, hR3.2.1, hC2, .inr hne, ((hB2.setCell (Nat.le_refl _) _).setCell (Nat.le_refl _) _).setCell (Nat.le_refl _) _⟩
   case measure => rw [HW.out]; simp only [intOf]; omega
  ·have q1 := eq_false (show ¬ ((i : Int) < (a1.size : Int)) by omega)
   have hy0 : wr.cell? ⟨w.heap.size + 1, 0, none⟩ = some (.int .i64 0) := (Zah BR 0).trans rfl
   have hy1 : wr.cell? ⟨w.heap.size + 1, 1, none⟩ = some (.int .i64 0) := (Zah BR 1).trans rfl
   have hy2 : wr.cell? ⟨w.heap.size + 1, 2, none⟩ = some (.slice none 0 0) := (Zah BR 2).trans rfl
   have hf0 := Zae BR 0
   have hf1 := Zae BR 1
   have hf2 := Zae BR 2
   have hgo := HGo.out
   rw [List.drop_eq_nil_of_le (by omega)] at hgo
   simp only [allGo, Option.some.injEq, Prod.mk.injEq] at hgo
   obtain ⟨rfl, rfl, rfl⟩ := hgo
   clear hbl
   go_wp2
   refine bodyPost_ret (results_cell_row rfl _ _ (w.heap.size + 1) 93 #[.int .i64 p1, .int .i64 p2, .slice A l.length c] (0, 0) _ rfl ?_ Tryz.underlying93 rfl (by kernel_rfl)) rfl ?_
   ·refine Zav (cs := #[.int .i64 p1, .int .i64 p2, .slice none 0 0]) ?_ 2 _ rfl
    refine Zav (cs := #[.int .i64 p1, .int .i64 0, .slice none 0 0]) ?_ 1 _ rfl
    exact Zav (cs := #[.int .i64 0, .int .i64 0, .slice none 0 0]) BR 0 _ rfl
   ·have hne : ∀ ad, A = some ad → 0 < l.length → ad.block ≠ w.heap.size + 1 := by
     intro ad had hl
     rcases hA with ⟨h1, h2⟩ | h1
     ·subst h1 h2 had
      have := Kd.C_lt hr0_2 hl (by decide)
      omega
     ·have := h1 ad had hl; omega
    have hK : Zc1 wr (((wr.setCell ⟨w.heap.size + 1, 0, none⟩ (.int .i64 p1)).setCell ⟨w.heap.size + 1, 1, none⟩ (.int .i64 p2)).setCell ⟨w.heap.size + 1, 2, none⟩ (.slice A l.length c)) (w.heap.size + 1) none := (((Zc1.refl wr _ _).set_ 0 _).set_ 1 _).set_ 2 _
    refine ⟨A, c, rfl, hlc, C_box hC hK hne, ?_, ((hB.setCell (Nat.le_succ _) _).setCell (Nat.le_succ _) _).setCell (Nat.le_succ _) _⟩
    rcases hA with h1 | h1
    ·exact .inl h1
    ·exact .inr fun ad had hl => by have := h1 ad had hl; omega
def Zgj.f (a0 : Bool) : Option (Int) := if a0 = true then (some 1) else (some 0)
set_option maxHeartbeats 8000000 in
set_option maxRecDepth 100000 in
theorem Zgj.calls (a0 : Bool) (r : Int) (w : World) (h : Zgj.f a0 = some r) :
  Calls Tryz.prog 133 #[.bool a0] w fun e w' => e = .returned (.int .i64 r) ∧ Za2 w w' := by
 have H : (if a0 = true then (some 1) else (some 0)) = some r := h
 clear h
 by_cases c2 : a0 = true
 ·subst c2
  have H1 : (some 1) = some r := by rw [if_pos rfl] at H; exact H
  clear H
  have H := H1
  clear H1
  obtain rfl := Option.some.inj H
  go_enter Tryz.func133, Tryz.ntmps133
  go_wp2
  go_ret
  exact ⟨by first | rfl | (simp; done) | (simp [*]; done), by repeat (first | exact Za2.refl _ | apply Za2.step)⟩
 ·replace c2 := Bool.eq_false_iff.mpr c2
  subst c2
  have H1 : (some 0) = some r := by rw [if_neg (show ¬ (false = true) by decide)] at H; exact H
  clear H
  have H := H1
  clear H1
  obtain rfl := Option.some.inj H
  go_enter Tryz.func133, Tryz.ntmps133
  go_wp2
  go_ret
  exact ⟨by first | rfl | (simp; done) | (simp [*]; done), by repeat (first | exact Za2.refl _ | apply Za2.step)⟩
theorem Zkd {n L j : Nat} {b : Bool} (h : (Go.bits .and .i64 ((n : Int) / 2 ^ (L - 1 - j)) 1 == 1) = b) : bitT n L j = b := by
 rw [i64_and1] at h
 unfold bitT
 have e : ((n : Int) / 2 ^ (L - 1 - j)) = ((n / 2 ^ (L - 1 - j) : Nat) : Int) := by simp
 rw [e] at h
 rw [← h, Bool.eq_iff_iff, beq_iff_eq, beq_iff_eq]
 omega
def tabGo (k : Nat) (a0 a1 : Int) (cells inputs outputs : List Int) (word : ByteArray) : Nat → Option (List Int)
 | 0 => some []
 | n + 1 => (tabGo k a0 a1 cells inputs outputs word n).bind fun out => (Zb5.f k a0 a1 (fillT cells inputs n inputs.length) word).bind fun r => if allIn outputs r.2.2.length = true then some (out ++ [(outT r.2.2 outputs outputs.length : Int)]) else none
def Zc6.f (k : Nat) (t : ByteArray) (inputs outputs : List Int) (word : ByteArray) : Option (List Int) := (Zcp.f k t).bind fun r => if tabOk r.2.2 inputs outputs = true then tabGo k r.1 r.2.1 r.2.2 inputs outputs word (2 ^ inputs.length) else none
theorem Zgc {k : Nat} {a0 a1 : Int} {cells inputs outputs : List Int} {word : ByteArray} : ∀ {n : Nat} {out : List Int}, tabGo k a0 a1 cells inputs outputs word n = some out → out.length = n
 | 0, out, h => by
  obtain rfl := Option.some.inj (show some [] = some out from h)
  rfl
 | n + 1, out, h => by
  simp only [tabGo] at h
  obtain ⟨o, ho, h⟩ := Option.bind_eq_some_iff.mp h
  obtain ⟨r, hr, h⟩ := Option.bind_eq_some_iff.mp h
  split at h
  ·obtain rfl := Option.some.inj h
   have := Zgc ho
   simp [this]
  ·cases h
theorem Zjx {k : Nat} {a0 a1 : Int} {cells inputs outputs : List Int} {word : ByteArray} {n : Nat} : ∀ (j : Nat) {out : List Int}, tabGo k a0 a1 cells inputs outputs word (n + j) = some out → ∃ o, tabGo k a0 a1 cells inputs outputs word n = some o
 | 0, out, h => ⟨out, h⟩
 | j + 1, out, h => by
  rw [← Nat.add_assoc] at h
  simp only [tabGo] at h
  obtain ⟨o, ho, _⟩ := Option.bind_eq_some_iff.mp h
  exact Zjx j ho
set_option maxHeartbeats 2000000 in
set_option maxRecDepth 100000 in
theorem Zc6.calls (k : Nat) (a0 : ByteArray) (A1 : Option Addr) (c1 : Nat) (l1 : List Int) (A2 : Option Addr) (c2 : Nat) (l2 : List Int) (a3 : ByteArray) (r : List Int) (w : World) (hr1 : Kd.C (Kd.int .i64) w A1 l1.length l1) (hc1 : l1.length ≤ c1) (hr2 : Kd.C (Kd.int .i64) w A2 l2.length l2) (hc2 : l2.length ≤ c2) (h : Zc6.f k a0 l1 l2 a3 = some r) :
  Calls Tryz.prog 93 #[.string a0, .slice A1 l1.length c1, .slice A2 l2.length c2, .string a3] w fun e w' => ∃ v0_ : Value, e = .returned (v0_) ∧ Kd.R (Kd.int .i64) 3 w' w.heap.size (fun _ => True) v0_ r ∧ Below w.heap.size w w' := by
 unfold Zc6.f at h
 obtain ⟨⟨a0_0, a0_1, l0_2⟩, hread, h⟩ := Option.bind_eq_some_iff.mp h
 simp only at h
 split at h
 case isFalse => cases h
 rename_i hok
 unfold tabOk at hok
 simp only [Bool.and_eq_true, decide_eq_true_eq] at hok
 obtain ⟨⟨⟨⟨hpos, hcl⟩, hll⟩, hol⟩, hin⟩ := hok
 have hin2 := Zgk hin
 have hm16 : 2 ^ l1.length ≤ 65536 := Nat.le_trans (Nat.pow_le_pow_right (by omega) hll) (by decide)
 obtain ⟨m, hm⟩ : ∃ m, m = 2 ^ l1.length := ⟨_, rfl⟩
 rw [← hm] at h hm16
 have HM := Zad.mk hm
 have HALL := Zad.mk h
 have HIN := Zad.mk hin2
 clear hm h hin hin2
 go_enter Tryz.func93, Tryz.ntmps93
 go_wp2_with ((with_reducible refine Zaz (N := 17) rfl ?_); refine Kd.R_lit (Kd.int .i64) _ 3 ?hg (N := 17) ?hd (xs := ([] : List Int)) (inner := []) (ok := fun _ => True) (okp := fun _ => True) ?hr ?hp (fun _ hk => hk) trivial (Below.refl w.heap.size w) (Nat.le_refl _) (by simp) ?_; (case hd => rfl); (case hg => rfl); (case hr => first | (go_simp; done) | (go_simp; rfl)); (case hp => exact (Reps.none _ _)); intro v0 w0 hO0 hB0 hg0 hn0; clear hg0 hn0)
 have hsh : wrap64 (2 ^ l1.length) = (m : Int) := by
  rw [HM.out, show ((2 : Int) ^ l1.length) = ((2 ^ l1.length : Nat) : Int) by simp, ← HM.out]
  unfold wrap64; omega
 have HSH := Zad.mk hsh
 clear hsh
 go_loopw [9, 21] (fun v9 v10 wr => ∃ (n : Nat) (out : List Int), n ≤ m ∧ v10 = .int .i64 n ∧ Zad (tabGo k a0_0 a0_1 l0_2 l1 l2 a3 n = some out) ∧ Kd.R (Kd.int .i64) 3 wr w.heap.size (fun _ => True) v9 out ∧ Below w.heap.size w wr)
  (fun _ v10 _ => m - (intOf v10).toNat)
 case atStart => exact ⟨0, [], Nat.zero_le _, rfl, ⟨rfl⟩, hO0, hB0⟩
 case round =>
  clear hB0 hO0
  obtain ⟨n, out, hn, rfl, HN, hR, hB⟩ := hrel
  rcases Nat.lt_or_eq_of_le hn with hlt | heq
  ·have q1 := eq_true (show (n : Int) < wrap64 (2 ^ l1.length) by rw [HSH.out]; omega)
   obtain ⟨out2, hout2⟩ := Zjx (n := n + 1) (m - (n + 1)) (by rw [show n + 1 + (m - (n + 1)) = m by omega]; exact HALL.out)
   have hout3 := hout2
   simp only [tabGo] at hout3
   rw [HN.out] at hout3
   obtain ⟨⟨t1, t2, l3⟩, hrun, hout3⟩ := Option.bind_eq_some_iff.mp (show (Zb5.f k a0_0 a0_1 (fillT l0_2 l1 n l1.length) a3).bind (fun r => if allIn l2 r.2.2.length = true then some (out ++ [(outT r.2.2 l2 l2.length : Int)]) else none) = some out2 from hout3)
   simp only at hout3
   split at hout3
   case isFalse => cases hout3
   rename_i hal
   obtain rfl := Option.some.inj hout3
   have hol2 := Zgc HN.out
   have HO2 := Zad.mk hout2
   have HRUN := Zad.mk hrun
   have HAL := Zad.mk (Zgk hal)
   clear hout2 hout3 hrun hal
   have hszw := hB.size
   go_wp2_with (go_at_call 69; refine (Zcp.calls2 k a0 a0_0 a0_1 l0_2 _ hread).mono ?_; rintro e w2 ⟨g, cg, rfl, hcg, hcm, hgb, hgl, hRF2, hb2⟩)
   obtain ⟨Wi, hWi⟩ : ∃ Wi, w2.alloc (.cells #[.int .i64 a0_0, .int .i64 a0_1, .slice (some ⟨g, 0, none⟩) l0_2.length cg] 93) = Wi := ⟨_, rfl⟩
   rw [hWi]
   have hszi : Wi.heap.size = w2.heap.size + 1 := by rw [← hWi]; simp
   have hsz2 := hb2.size
   have hBi : Below w.heap.size w Wi := by rw [← hWi]; exact (hB.trans (hb2.mono (by omega))).alloc (by omega) _
   have hBn : Wi.heap[w2.heap.size]? = some (.cells #[.int .i64 a0_0, .int .i64 a0_1, .slice (some ⟨g, 0, none⟩) l0_2.length cg] 93 (0, 0)) := by
    rw [← hWi]; simpa using heap_alloc_new w2 _
   have hRi : RowF Wi g l0_2.length l0_2 := hRF2.of_heap (by rw [← hWi]; exact Below.heap_alloc _ _ _ hgl)
   have hOi : Kd.R (Kd.int .i64) 3 Wi w.heap.size (fun k => k < wr.heap.size) u9 out := by
    rw [← hWi]; exact Kd.R_alloc (Kd.R_below (Kd.R_mono (Kd.R_bound hR) (fun k hk => hk.2.2.1)) hb2) _
   clear hWi hRF2 hR hb2
   have HBN := Zad.mk hBn
   clear hBn
   go_loopw [28] (fun v28 wq => ∃ (j : Nat), j ≤ l1.length ∧ v28 = .int .i64 j ∧ RowF wq g l0_2.length (fillT l0_2 l1 n j) ∧ Kept Wi wq (fun k => k = g) ∧ Below w.heap.size w wq)
    (fun v28 _ => l1.length - (intOf v28).toNat)
   case atStart => exact ⟨0, Nat.zero_le _, rfl, hRi, Kept.refl _ _, hBi⟩
   case round =>
    clear hRi hBi
    obtain ⟨j, hj, rfl, hRq, hK, hBq⟩ := hrel
    have bN := Zcv HBN.out hK (by omega)
    have hy0 : wr.cell? ⟨w2.heap.size, 0, none⟩ = some (.int .i64 a0_0) := (Zah bN 0).trans rfl
    have hy1 : wr.cell? ⟨w2.heap.size, 1, none⟩ = some (.int .i64 a0_1) := (Zah bN 1).trans rfl
    have hy2 : wr.cell? ⟨w2.heap.size, 2, none⟩ = some (.slice (some ⟨g, 0, none⟩) l0_2.length cg) := (Zah bN 2).trans rfl
    have hfl := Zc8 l0_2 l1 n j
    rcases Nat.lt_or_eq_of_le hj with hlt2 | heq2
    ·obtain ⟨ad2, e2, hx2⟩ := Kd.at_int (Kd.C_below hr1 hBq) (j : Int) (by omega) (by omega)
     subst e2
     rw [Int.toNat_natCast] at hx2
     obtain ⟨hk0, hk1⟩ := HIN.out j hlt2
     have hlt3 : (rd l1 j).toNat < (fillT l0_2 l1 n j).length := by rw [hfl]; omega
     have hy3 := hRq.cell (rd l1 j).toNat _ (List.getElem?_eq_getElem hlt3)
     have hf3 := hRq.frozen (rd l1 j).toNat (by omega)
     have hput := hRq.put (rd l1 j).toNat (by omega) 111
     have HPUT := Zad.mk hput
     have hst := Zga l0_2 l1 n j
     have HST := Zad.mk hst
     have p2 := eq_true (show (0 : Int) ≤ (j : Int) by omega)
     have q2 := eq_true (show (j : Int) < (l1.length : Int) by omega)
     have p3 := eq_true hk0
     have q3 := eq_true (show rd l1 j < (l0_2.length : Int) from hk1)
     clear hput hst hfl
     go_wp2
     ·have hb := Zkd (n := n) (L := l1.length) (j := j) (b := true) (by assumption)
      have h2 := HST.out
      rw [hb, if_pos rfl] at h2
      refine ⟨⟨j + 1, by omega, by simp, by rw [h2]; exact HPUT.out, hK.setCell (p := ⟨g, _, none⟩) (.inl rfl) _, hBq.setCell (p := ⟨g, _, none⟩) (by show w.heap.size ≤ g; omega) _⟩, ?_⟩
      simp [intOf]; omega
     ·have hb := Zkd (n := n) (L := l1.length) (j := j) (b := false) (by assumption)
      have h2 := HST.out
      rw [hb, if_neg (by decide)] at h2
      refine ⟨⟨j + 1, by omega, by simp, by rw [h2]; exact hRq, hK, hBq⟩, ?_⟩
      simp [intOf]; omega
    ·have q2 := eq_false (show ¬ ((j : Int) < (l1.length : Int)) by omega)
     have hjl : j = l1.length := heq2
     rw [hjl] at hRq
     have hszq := hBq.size
     have hszk := hK.1
     have hC3 := hRq.C (by omega)
     have hfl2 := Zc8 l0_2 l1 n l1.length
     rw [← hfl2] at hC3
     have hcf : (fillT l0_2 l1 n l1.length).length ≤ cg := by omega
     have HC3 := Zad.mk hC3
     have hbq2 : ∀ {w4 : World}, Below wr.heap.size wr w4 → w4.heap[w2.heap.size]? = some (.cells #[.int .i64 a0_0, .int .i64 a0_1, .slice (some ⟨g, 0, none⟩) l0_2.length cg] 93 (0, 0)) := fun hb => (hb.block _ (by omega)).trans bN
     have hcall := Zb5.calls k a0_0 a0_1 (some ⟨g, 0, none⟩) cg (fillT l0_2 l1 n l1.length) a3 t1 t2 l3 wr HC3.out hcf HRUN.out
     rw [hfl2] at hcall
     have HCALL := Zad.mk hcall
     clear hcall hC3 hfl hfl2
     go_wp2_with (go_at_call 132; refine HCALL.out.mono ?_; rintro e w4 ⟨A4, c4, rfl, hl4, hC4, hA4, hb4⟩; have bN4 := hbq2 hb4; have y0 : w4.cell? ⟨w2.heap.size, 0, none⟩ = some (.int .i64 a0_0) := (Zah bN4 0).trans rfl; have y1 : w4.cell? ⟨w2.heap.size, 1, none⟩ = some (.int .i64 a0_1) := (Zah bN4 1).trans rfl; have y2 : w4.cell? ⟨w2.heap.size, 2, none⟩ = some (.slice (some ⟨g, 0, none⟩) l0_2.length cg) := (Zah bN4 2).trans rfl; have f0 := Zae bN4 0; have f1 := Zae bN4 1; have f2 := Zae bN4 2)
     obtain ⟨Ws, hWs⟩ : ∃ Ws, (((w4.setCell ⟨w2.heap.size, 0, none⟩ (.int .i64 t1)).setCell ⟨w2.heap.size, 1, none⟩ (.int .i64 t2)).setCell ⟨w2.heap.size, 2, none⟩ (.slice A4 l3.length c4)) = Ws := ⟨_, rfl⟩
     have hKs : Zc1 w4 Ws w2.heap.size none := by rw [← hWs]; exact (((Zc1.refl w4 _ _).set_ 0 _).set_ 1 _).set_ 2 _
     have hne : ∀ ad, A4 = some ad → 0 < l3.length → ad.block ≠ w2.heap.size := by
      intro ad had hl
      rcases hA4 with ⟨h1, h2⟩ | h1
      ·rw [h1] at had
       injection had with had
       subst had
       show g ≠ w2.heap.size
       omega
      ·have := h1 ad had hl; omega
     have hCs := C_box hC4 hKs hne
     have bNs : Ws.heap[w2.heap.size]? = some (.cells #[.int .i64 t1, .int .i64 t2, .slice A4 l3.length c4] 93 (0, 0)) := by
      rw [← hWs]
      refine Zav (cs := #[.int .i64 t1, .int .i64 t2, .slice (some ⟨g, 0, none⟩) l0_2.length cg]) ?_ 2 _ rfl
      refine Zav (cs := #[.int .i64 t1, .int .i64 a0_1, .slice (some ⟨g, 0, none⟩) l0_2.length cg]) ?_ 1 _ rfl
      exact Zav (cs := #[.int .i64 a0_0, .int .i64 a0_1, .slice (some ⟨g, 0, none⟩) l0_2.length cg]) bN4 0 _ rfl
     have hsz4 := hb4.size
     have hB4 : Below w.heap.size w w4 := hBq.trans (hb4.mono (by omega))
     have hBs : Below w.heap.size w Ws := by rw [← hWs]; exact ((hB4.setCell (by show w.heap.size ≤ w2.heap.size; omega) _).setCell (by show w.heap.size ≤ w2.heap.size; omega) _).setCell (by show w.heap.size ≤ w2.heap.size; omega) _
     have hszs := hKs.1
     have hKt : Kept w4 Ws (fun k => k = w2.heap.size) := by rw [← hWs]; exact (((Kept.refl w4 (fun k => k = w2.heap.size)).setCell (p := ⟨w2.heap.size, 0, none⟩) (.inl rfl) _).setCell (p := ⟨w2.heap.size, 1, none⟩) (.inl rfl) _).setCell (p := ⟨w2.heap.size, 2, none⟩) (.inl rfl) _
     have hOs : Kd.R (Kd.int .i64) 3 Ws w.heap.size (fun _ => True) u9 out :=
      Kd.R_mono (Kd.R_kept (Kd.R_below (Kd.R_kept hOi hK (fun k hk he => by omega)) hb4) hKt (fun k hk he => by omega)) (fun _ _ => trivial)
     have hR2s := Kd.C_below hr2 hBs
     rw [hWs]
     have HBNS := Zad.mk bNs
     clear hWs hKs hKt y0 y1 y2 f0 f1 f2 hy0 hy1 hy2 hRq hC4 hA4 bN4 hb4 hOi hbq2 HC3 hcf bN hK hB4 hBq HCALL
     go_loopw [14, 52] (fun v14 v52 wq => ∃ (j : Nat), j ≤ l2.length ∧ v14 = .int .i64 (outT l3 l2 j : Int) ∧ v52 = .int .i64 j ∧ Below Ws.heap.size Ws wq)
      (fun _ v52 _ => l2.length - (intOf v52).toNat)
     case atStart => exact ⟨0, Nat.zero_le _, rfl, rfl, Below.refl _ _⟩
     case round =>
      obtain ⟨j2, hj2, rfl, rfl, hBq⟩ := hrel
      have bN := (hBq.block _ (by omega)).trans HBNS.out
      have hy2 : wr.cell? ⟨w2.heap.size, 2, none⟩ = some (.slice A4 l3.length c4) := (Zah bN 2).trans rfl
      have hlt16 : outT l3 l2 j2 < 65536 := Nat.lt_of_lt_of_le (Zjj l3 l2 j2) (Nat.le_trans (Nat.pow_le_pow_right (by omega) (show j2 ≤ 16 by omega)) (by decide))
      rcases Nat.lt_or_eq_of_le hj2 with hlt3 | heq3
      ·obtain ⟨ad5, e5, hx5⟩ := Kd.at_int (Kd.C_below hR2s hBq) (j2 : Int) (by omega) (by omega)
       subst e5
       rw [Int.toNat_natCast] at hx5
       obtain ⟨hk0, hk1⟩ := HAL.out j2 hlt3
       obtain ⟨ad6, e6, hx6⟩ := Kd.at_int (Kd.C_below hCs hBq) (rd l2 j2) hk0 hk1
       subst e6
       have p2 := eq_true (show (0 : Int) ≤ (j2 : Int) by omega)
       have q2 := eq_true (show (j2 : Int) < (l2.length : Int) by omega)
       have p3 := eq_true hk0
       have q3 := eq_true hk1
       have hst := Zgx l3 l2 j2
       have HST := Zad.mk hst
       clear hst
       obtain ⟨bb, hbb⟩ : ∃ bb, ballB (rd l3 (rd l2 j2)) = bb := ⟨_, rfl⟩
       obtain ⟨bi, hbi⟩ : ∃ bi : Int, bi = if bb = true then 1 else 0 := ⟨_, rfl⟩
       have HBI := Zad.mk hbi
       have hb01 : 0 ≤ bi ∧ bi ≤ 1 := by rw [hbi]; split <;> omega
       clear hbi
       go_wp2_with (first
        | (go_at_call 134; refine (Zcz.calls (rd l3 (rd l2 j2)) bb _ (by rw [Zfs, hbb])).mono ?_; rintro e w5 ⟨rfl, ⟨nd, rfl⟩⟩)
        | (go_at_call 133; refine (Zgj.calls bb bi _ (by rw [HBI.out]; unfold Zgj.f; split <;> rfl)).mono ?_; rintro e w6 ⟨rfl, ⟨nd2, rfl⟩⟩))
       refine ⟨⟨j2 + 1, by omega, ?_, by simp, Zaa hBq _⟩, ?_⟩
       ·rw [HST.out, hbb, HBI.out]
        refine congrArg (Value.int .i64) ?_
        cases bb <;> simp
       ·simp [intOf]; omega
      ·have q2 := eq_false (show ¬ ((j2 : Int) < (l2.length : Int)) by omega)
       have hjl : j2 = l2.length := heq3
       subst hjl
       have hOq : Kd.R (Kd.int .i64) 3 wr w.heap.size (fun _ => True) u9 out := Kd.R_below hOs hBq
       have hszw2 := hBq.size
       have hBw : Below w.heap.size w wr := hBs.trans (hBq.mono (by omega))
       go_wp2_with (at_builtin; refine Kd.R_append (Kd.int .i64) (w0 := w) w.heap.size rfl _ _ 31 3 (.int .i64 0) 8 rfl Tryz.underlying31 info3 rfl (by decide) (by omega) u9 out (outT l3 l2 l2.length : Int) [.int .i64 (outT l3 l2 l2.length : Int)] (fun _ => True) (fun _ => False) rfl rfl rfl (fun _ hk => hk.elim) (fun _ _ => trivial) hOq hBw (by omega) (by omega) ?_; intro v5 w5 ho5 hb5 hg5 hat5)
       refine ⟨⟨n + 1, _, by omega, by simp, HO2, ho5, hb5⟩, ?_⟩
       simp [intOf]; omega
  ·subst heq
   have q1 := eq_false (show ¬ ((n : Int) < wrap64 (2 ^ l1.length)) by rw [HSH.out]; omega)
   go_wp2
   go_ret
   have : out = r := Option.some.inj (HN.out.symm.trans HALL.out)
   subst this
   exact ⟨_, rfl, hR, hB⟩
def Zc0.f (k : Nat) (a0 : ByteArray) (l1 : List Int) (l2 : List Int) (a3 : ByteArray) : Option (List Int × Bool) := (Zdf.f k a0 l1 l2).bind fun t101 => (if t101 = true then ((Zcu.f a3).bind fun t102 => (if t102 = true then ((Zc6.f k a0 l1 l2 a3).bind fun t103 => (some (t103, true))) else (some (([] : List Int), false)))) else (some (([] : List Int), false)))
set_option maxHeartbeats 8000000 in
set_option maxRecDepth 100000 in
theorem Zc0.calls (k : Nat) (a0 : ByteArray) (A1 : Option Addr) (c1 : Nat) (l1 : List Int) (A2 : Option Addr) (c2 : Nat) (l2 : List Int) (a3 : ByteArray) (r1 : List Int) (r2 : Bool) (w : World) (hr1 : Kd.C (Kd.int .i64) w A1 l1.length l1) (hc1 : l1.length ≤ c1) (hr2 : Kd.C (Kd.int .i64) w A2 l2.length l2) (hc2 : l2.length ≤ c2) (h : Zc0.f k a0 l1 l2 a3 = some (r1, r2)) :
  Calls Tryz.prog 47 #[.string a0, .slice A1 l1.length c1, .slice A2 l2.length c2, .string a3] w fun e w' => ∃ v0_ : Value, e = .returned (.tuple #[v0_, .bool r2]) ∧ Kd.R (Kd.int .i64) 3 w' w.heap.size (fun _ => True) v0_ r1 ∧ Below w.heap.size w w' := by
 have HR1 := Zad.mk hr1
 have HC1 := Zad.mk hc1
 clear hr1 hc1
 have HR2 := Zad.mk hr2
 have HC2 := Zad.mk hc2
 clear hr2 hc2
 have HB := Zad.mk (Below.refl w.heap.size w)
 have H : ((Zdf.f k a0 l1 l2).bind fun t101 => (if t101 = true then ((Zcu.f a3).bind fun t102 => (if t102 = true then ((Zc6.f k a0 l1 l2 a3).bind fun t103 => (some (t103, true))) else (some (([] : List Int), false)))) else (some (([] : List Int), false)))) = some (r1, r2) := h
 clear h
 replace H := Option.bind_eq_some_iff.mp H
 obtain ⟨t101, A50, H⟩ := H
 replace H : (if t101 = true then ((Zcu.f a3).bind fun t102 => (if t102 = true then ((Zc6.f k a0 l1 l2 a3).bind fun t103 => (some (t103, true))) else (some (([] : List Int), false)))) else (some (([] : List Int), false))) = some (r1, r2) := H
 have A5 := Zad.mk A50
 clear A50
 by_cases c6 : t101 = true
 ·subst c6
  have H1 : ((Zcu.f a3).bind fun t102 => (if t102 = true then ((Zc6.f k a0 l1 l2 a3).bind fun t103 => (some (t103, true))) else (some (([] : List Int), false)))) = some (r1, r2) := by rw [if_pos rfl] at H; exact H
  clear H
  have H := H1
  clear H1
  replace H := Option.bind_eq_some_iff.mp H
  obtain ⟨t102, A70, H⟩ := H
  replace H : (if t102 = true then ((Zc6.f k a0 l1 l2 a3).bind fun t103 => (some (t103, true))) else (some (([] : List Int), false))) = some (r1, r2) := H
  have A7 := Zad.mk A70
  clear A70
  by_cases c8 : t102 = true
  ·subst c8
   have H1 : ((Zc6.f k a0 l1 l2 a3).bind fun t103 => (some (t103, true))) = some (r1, r2) := by rw [if_pos rfl] at H; exact H
   clear H
   have H := H1
   clear H1
   replace H := Option.bind_eq_some_iff.mp H
   obtain ⟨t103, A90, H⟩ := H
   replace H : (some (t103, true)) = some (r1, r2) := H
   have A9 := Zad.mk A90
   clear A90
   simp only [Option.some.injEq, Prod.mk.injEq] at H
   obtain ⟨rfl, rfl⟩ := H
   go_enter Tryz.func47, Tryz.ntmps47
   go_wp2_with (first | ((with_reducible refine Zas (f := 92) rfl ?_); refine Zbg (some 13) rfl rfl Tryz.func92 (by kernel_rfl) rfl #[.string a0, .slice A1 l1.length c1, .slice A2 l2.length c2] rfl (by (try simp only [List.map_toArray, List.map_cons, List.map_nil]); first | done | rfl | (simp only [List.length_drop, List.length_take]; rfl)) ?_; (with_reducible refine (Zdf.calls k a0 _ _ l1 _ _ l2 true _ ?side1 ?side2 ?side3 ?side4 A5.out).mono ?_); (case side1 => repeat (first | exact HR1.out | (with_reducible refine Kd.C_alloc ?_ _) | (with_reducible refine Kd.C_drewN ?_ _) | (with_reducible refine Kd.C_drew ?_))); (case side2 => exact HC1.out); (case side3 => repeat (first | exact HR2.out | (with_reducible refine Kd.C_alloc ?_ _) | (with_reducible refine Kd.C_drewN ?_ _) | (with_reducible refine Kd.C_drew ?_))); (case side4 => exact HC2.out); rintro e w10 ⟨rfl, hb⟩; refine ⟨_, rfl, ?_⟩; have n0_ := Zad.mk (Zal (by with_reducible repeat first | exact HB.out | apply Zac | apply Zaa | apply Zab) hb); clear HB; have HB := n0_) | (go_at_call 83; (with_reducible refine (Zcu.calls a3 true _ A7.out).mono ?_); rintro e w11 ⟨rfl, hb⟩; have n0_ := Zad.mk (Zal (by with_reducible repeat first | exact HB.out | apply Zac | apply Zaa | apply Zab) hb); clear HB; have HB := n0_) | ((with_reducible refine Zas (f := 93) rfl ?_); refine Zbg (some 24) rfl rfl Tryz.func93 (by kernel_rfl) rfl #[.string a0, .slice A1 l1.length c1, .slice A2 l2.length c2, .string a3] rfl (by (try simp only [List.map_toArray, List.map_cons, List.map_nil]); first | done | rfl | (simp only [List.length_drop, List.length_take]; rfl)) ?_; (with_reducible refine (Zc6.calls k a0 _ _ l1 _ _ l2 a3 t103 _ ?side1 ?side2 ?side3 ?side4 A9.out).mono ?_); (case side1 => repeat (first | exact (Kd.C_below HR1.out HB.out) | (with_reducible refine Kd.C_alloc ?_ _) | (with_reducible refine Kd.C_drewN ?_ _) | (with_reducible refine Kd.C_drew ?_))); (case side2 => exact HC1.out); (case side3 => repeat (first | exact (Kd.C_below HR2.out HB.out) | (with_reducible refine Kd.C_alloc ?_ _) | (with_reducible refine Kd.C_drewN ?_ _) | (with_reducible refine Kd.C_drew ?_))); (case side4 => exact HC2.out); rintro e w12 ⟨v104, rfl, ho0, hb⟩; refine ⟨_, rfl, ?_⟩; have n0_ := Zad.mk (Kd.R_lower ho0 (Zak (by with_reducible repeat first | exact HB.out | apply Zac | apply Zaa | apply Zab))); have n1_ := Zad.mk (Zal (by with_reducible repeat first | exact HB.out | apply Zac | apply Zaa | apply Zab) hb); clear HB; have HO105 := n0_; have HB := n1_))
   go_ret2
   exact ⟨_, by first | rfl | (simp [Zap, Zao] <;> rfl) | (simp [*, Zap, Zao] <;> rfl), by (with_reducible repeat (first | apply Kd.R_alloc | apply Kd.R_drewN | apply Kd.R_drew)); exact HO105.out, by repeat (first | (with_reducible first | exact HB.out | apply Zac | apply Zaa | apply Zab) | exact HB.out)⟩
  ·replace c8 := Bool.eq_false_iff.mpr c8
   subst c8
   have H1 : (some (([] : List Int), false)) = some (r1, r2) := by rw [if_neg (show ¬ (false = true) by decide)] at H; exact H
   clear H
   have H := H1
   clear H1
   simp only [Option.some.injEq, Prod.mk.injEq] at H
   obtain ⟨rfl, rfl⟩ := H
   go_enter Tryz.func47, Tryz.ntmps47
   go_wp2_with (first | ((with_reducible refine Zas (f := 92) rfl ?_); refine Zbg (some 13) rfl rfl Tryz.func92 (by kernel_rfl) rfl #[.string a0, .slice A1 l1.length c1, .slice A2 l2.length c2] rfl (by (try simp only [List.map_toArray, List.map_cons, List.map_nil]); first | done | rfl | (simp only [List.length_drop, List.length_take]; rfl)) ?_; (with_reducible refine (Zdf.calls k a0 _ _ l1 _ _ l2 true _ ?side1 ?side2 ?side3 ?side4 A5.out).mono ?_); (case side1 => repeat (first | exact HR1.out | (with_reducible refine Kd.C_alloc ?_ _) | (with_reducible refine Kd.C_drewN ?_ _) | (with_reducible refine Kd.C_drew ?_))); (case side2 => exact HC1.out); (case side3 => repeat (first | exact HR2.out | (with_reducible refine Kd.C_alloc ?_ _) | (with_reducible refine Kd.C_drewN ?_ _) | (with_reducible refine Kd.C_drew ?_))); (case side4 => exact HC2.out); rintro e w13 ⟨rfl, hb⟩; refine ⟨_, rfl, ?_⟩; have n0_ := Zad.mk (Zal (by with_reducible repeat first | exact HB.out | apply Zac | apply Zaa | apply Zab) hb); clear HB; have HB := n0_) | (go_at_call 83; (with_reducible refine (Zcu.calls a3 false _ A7.out).mono ?_); rintro e w14 ⟨rfl, hb⟩; have n0_ := Zad.mk (Zal (by with_reducible repeat first | exact HB.out | apply Zac | apply Zaa | apply Zab) hb); clear HB; have HB := n0_))
   go_ret2
   exact ⟨_, by first | rfl | (simp [Zap, Zao] <;> rfl) | (simp [*, Zap, Zao] <;> rfl), by first | exact Kd.R_nil _ _ _ _ _ | exact Kd.N_nil _ _ _ _ _ | exact Kd.V_nil _ _ _ _ _ | exact Kd.Q_nil _ _ _ _ _ | exact Kd.S_nil _ _ _ _ _, by repeat (first | (with_reducible first | exact HB.out | apply Zac | apply Zaa | apply Zab) | exact HB.out)⟩
 ·replace c6 := Bool.eq_false_iff.mpr c6
  subst c6
  have H1 : (some (([] : List Int), false)) = some (r1, r2) := by rw [if_neg (show ¬ (false = true) by decide)] at H; exact H
  clear H
  have H := H1
  clear H1
  simp only [Option.some.injEq, Prod.mk.injEq] at H
  obtain ⟨rfl, rfl⟩ := H
  go_enter Tryz.func47, Tryz.ntmps47
  go_wp2_with (first | ((with_reducible refine Zas (f := 92) rfl ?_); refine Zbg (some 13) rfl rfl Tryz.func92 (by kernel_rfl) rfl #[.string a0, .slice A1 l1.length c1, .slice A2 l2.length c2] rfl (by (try simp only [List.map_toArray, List.map_cons, List.map_nil]); first | done | rfl | (simp only [List.length_drop, List.length_take]; rfl)) ?_; (with_reducible refine (Zdf.calls k a0 _ _ l1 _ _ l2 false _ ?side1 ?side2 ?side3 ?side4 A5.out).mono ?_); (case side1 => repeat (first | exact HR1.out | (with_reducible refine Kd.C_alloc ?_ _) | (with_reducible refine Kd.C_drewN ?_ _) | (with_reducible refine Kd.C_drew ?_))); (case side2 => exact HC1.out); (case side3 => repeat (first | exact HR2.out | (with_reducible refine Kd.C_alloc ?_ _) | (with_reducible refine Kd.C_drewN ?_ _) | (with_reducible refine Kd.C_drew ?_))); (case side4 => exact HC2.out); rintro e w15 ⟨rfl, hb⟩; refine ⟨_, rfl, ?_⟩; have n0_ := Zad.mk (Zal (by with_reducible repeat first | exact HB.out | apply Zac | apply Zaa | apply Zab) hb); clear HB; have HB := n0_))
  go_ret2
  exact ⟨_, by first | rfl | (simp [Zap, Zao] <;> rfl) | (simp [*, Zap, Zao] <;> rfl), by first | exact Kd.R_nil _ _ _ _ _ | exact Kd.N_nil _ _ _ _ _ | exact Kd.V_nil _ _ _ _ _ | exact Kd.Q_nil _ _ _ _ _ | exact Kd.S_nil _ _ _ _ _, by repeat (first | (with_reducible first | exact HB.out | apply Zac | apply Zaa | apply Zab) | exact HB.out)⟩
def Zbu.f (k : Nat) (a0 : ByteArray) (l1 : List Int) (l2 : List Int) (a3 : ByteArray) : Option (Bool × Bool) := (Zc0.f k a0 l1 l2 a3).bind fun bt101 => (if bt101.2 = true then ((Zbx.f bt101.1).bind fun t105 => ((Zbo.f t105).bind fun t106 => ((Za9.f t106).bind fun t109 => (some (((t109.length : Int) == (bt101.1.length : Int)), true))))) else (some (false, false)))
set_option maxHeartbeats 8000000 in
set_option maxRecDepth 100000 in
theorem Zbu.calls (k : Nat) (a0 : ByteArray) (A1 : Option Addr) (c1 : Nat) (l1 : List Int) (A2 : Option Addr) (c2 : Nat) (l2 : List Int) (a3 : ByteArray) (r1 : Bool) (r2 : Bool) (w : World) (hr1 : Kd.C (Kd.int .i64) w A1 l1.length l1) (hc1 : l1.length ≤ c1) (hr2 : Kd.C (Kd.int .i64) w A2 l2.length l2) (hc2 : l2.length ≤ c2) (h : Zbu.f k a0 l1 l2 a3 = some (r1, r2)) :
  Calls Tryz.prog 19 #[.string a0, .slice A1 l1.length c1, .slice A2 l2.length c2, .string a3] w fun e w' => e = .returned (.tuple #[.bool r1, .bool r2]) ∧ Below w.heap.size w w' := by
 have HR1 := Zad.mk hr1
 have HC1 := Zad.mk hc1
 clear hr1 hc1
 have HR2 := Zad.mk hr2
 have HC2 := Zad.mk hc2
 clear hr2 hc2
 have HB := Zad.mk (Below.refl w.heap.size w)
 have H : ((Zc0.f k a0 l1 l2 a3).bind fun bt101 => (if bt101.2 = true then ((Zbx.f bt101.1).bind fun t105 => ((Zbo.f t105).bind fun t106 => ((Za9.f t106).bind fun t109 => (some (((t109.length : Int) == (bt101.1.length : Int)), true))))) else (some (false, false)))) = some (r1, r2) := h
 clear h
 replace H := Option.bind_eq_some_iff.mp H
 obtain ⟨⟨t101, t102⟩, A50, H⟩ := H
 replace H : (if t102 = true then ((Zbx.f t101).bind fun t105 => ((Zbo.f t105).bind fun t106 => ((Za9.f t106).bind fun t109 => (some (((t109.length : Int) == (t101.length : Int)), true))))) else (some (false, false))) = some (r1, r2) := H
 have A5 := Zad.mk A50
 clear A50
 by_cases c6 : t102 = true
 ·subst c6
  have H1 : ((Zbx.f t101).bind fun t105 => ((Zbo.f t105).bind fun t106 => ((Za9.f t106).bind fun t109 => (some (((t109.length : Int) == (t101.length : Int)), true))))) = some (r1, r2) := by rw [if_pos rfl] at H; exact H
  clear H
  have H := H1
  clear H1
  replace H := Option.bind_eq_some_iff.mp H
  obtain ⟨t105, A70, H⟩ := H
  replace H : ((Zbo.f t105).bind fun t106 => ((Za9.f t106).bind fun t109 => (some (((t109.length : Int) == (t101.length : Int)), true)))) = some (r1, r2) := H
  have A7 := Zad.mk A70
  clear A70
  replace H := Option.bind_eq_some_iff.mp H
  obtain ⟨t106, A80, H⟩ := H
  replace H : ((Za9.f t106).bind fun t109 => (some (((t109.length : Int) == (t101.length : Int)), true))) = some (r1, r2) := H
  have A8 := Zad.mk A80
  clear A80
  replace H := Option.bind_eq_some_iff.mp H
  obtain ⟨t109, A90, H⟩ := H
  replace H : (some (((t109.length : Int) == (t101.length : Int)), true)) = some (r1, r2) := H
  have A9 := Zad.mk A90
  clear A90
  simp only [Option.some.injEq, Prod.mk.injEq] at H
  obtain ⟨rfl, rfl⟩ := H
  go_enter Tryz.func19, Tryz.ntmps19
  go_wp2_with (first | ((with_reducible refine Zas (f := 47) rfl ?_); refine Zbg (some 17) rfl rfl Tryz.func47 (by kernel_rfl) rfl #[.string a0, .slice A1 l1.length c1, .slice A2 l2.length c2, .string a3] rfl (by (try simp only [List.map_toArray, List.map_cons, List.map_nil]); first | done | rfl | (simp only [List.length_drop, List.length_take]; rfl)) ?_; (with_reducible refine (Zc0.calls k a0 _ _ l1 _ _ l2 a3 t101 true _ ?side1 ?side2 ?side3 ?side4 A5.out).mono ?_); (case side1 => repeat (first | exact HR1.out | (with_reducible refine Kd.C_alloc ?_ _) | (with_reducible refine Kd.C_drewN ?_ _) | (with_reducible refine Kd.C_drew ?_))); (case side2 => exact HC1.out); (case side3 => repeat (first | exact HR2.out | (with_reducible refine Kd.C_alloc ?_ _) | (with_reducible refine Kd.C_drewN ?_ _) | (with_reducible refine Kd.C_drew ?_))); (case side4 => exact HC2.out); rintro e w10 ⟨v103, rfl, ho0, hb⟩; refine ⟨_, rfl, ?_⟩; have n0_ := Zad.mk (Kd.R_lower ho0 (Zak (by with_reducible repeat first | exact HB.out | apply Zac | apply Zaa | apply Zab))); have n1_ := Zad.mk (Zal (by with_reducible repeat first | exact HB.out | apply Zac | apply Zaa | apply Zab) hb); clear HB; have HO104 := n0_; have HB := n1_; obtain ⟨Ao11, co11, eo11⟩ := Kd.R_slice HO104.out; subst eo11) | ((with_reducible refine Zas (f := 48) rfl ?_); refine Zbg (some 23) rfl rfl Tryz.func48 (by kernel_rfl) rfl #[.slice Ao11 t101.length co11] rfl (by (try simp only [List.map_toArray, List.map_cons, List.map_nil]); first | done | rfl | (simp only [List.length_drop, List.length_take]; rfl)) ?_; (with_reducible refine (Zbx.calls (fun k_ => some k_ = (.slice Ao11 t101.length co11 : Value).ownBlock) (.slice Ao11 t101.length co11) t101 t105 w _ ?side1 ?side2 A7.out).mono ?_); (case side1 => repeat (first | (with_reducible first | exact HB.out | apply Zac | apply Zaa | apply Zab) | exact HB.out)); (case side2 => exact Kd.R_tight rfl HO104.out); rintro e w12 ⟨rfl, hy0, hb, hkp⟩; refine ⟨_, rfl, ?_⟩; have n0_ := Zad.mk (Kd.R_reok rfl hy0 (fun k_ e_ => HO104.out.1 k_ e_)); have n1_ := Zad.mk (hb); clear HO104; clear HB; have HO104 := n0_; have HB := n1_) | ((with_reducible refine Zas (f := 50) rfl ?_); refine Zbg (some 25) rfl rfl Tryz.func50 (by kernel_rfl) rfl #[.slice Ao11 t105.length co11] rfl (by (try simp only [List.map_toArray, List.map_cons, List.map_nil]); first | done | (rw [show t105.length = t101.length from (Kd.R_reads' HO104.out).1.symm] <;> rfl) | rfl | (simp only [List.length_drop, List.length_take]; rfl)) ?_; (with_reducible refine (Zbo.calls _ _ t105 t106 _ ?side1 ?side2 A8.out).mono ?_); (case side1 => repeat (first | exact (Kd.R_reads' HO104.out).2.2 | (with_reducible refine Kd.C_alloc ?_ _) | (with_reducible refine Kd.C_drewN ?_ _) | (with_reducible refine Kd.C_drew ?_))); (case side2 => rw [show t105.length = t101.length from (Kd.R_reads' HO104.out).1.symm]; exact (Kd.R_reads' HO104.out).2.1); rintro e w13 ⟨v107, rfl, ho0, hb⟩; refine ⟨_, rfl, ?_⟩; have n0_ := Zad.mk (Kd.R_elder' (by (with_reducible repeat (first | apply Kd.R_alloc | apply Kd.R_drewN | apply Kd.R_drew)); exact HO104.out) (Kd.R_base ho0) hb); have n1_ := Zad.mk (Kd.R_lower (Kd.R_new' ho0 (Kd.R_lt (by (with_reducible repeat (first | apply Kd.R_alloc | apply Kd.R_drewN | apply Kd.R_drew)); exact HO104.out))) (Zak (by with_reducible repeat first | exact HB.out | apply Zac | apply Zaa | apply Zab))); have n2_ := Zad.mk (Zal (by with_reducible repeat first | exact HB.out | apply Zac | apply Zaa | apply Zab) hb); clear HO104; clear HB; have HO104 := n0_; have HO108 := n1_; have HB := n2_; obtain ⟨Ao14, co14, eo14⟩ := Kd.R_slice HO108.out; subst eo14) | ((with_reducible refine Zas (f := 49) rfl ?_); refine Zbg (some 26) rfl rfl Tryz.func49 (by kernel_rfl) rfl #[.slice Ao14 t106.length co14] rfl (by (try simp only [List.map_toArray, List.map_cons, List.map_nil]); first | done | rfl | (simp only [List.length_drop, List.length_take]; rfl)) ?_; (with_reducible refine (Za9.calls (fun k_ => some k_ = (.slice Ao14 t106.length co14 : Value).ownBlock) (.slice Ao14 t106.length co14) t106 t109 w _ ?side1 ?side2 A9.out).mono ?_); (case side1 => repeat (first | (with_reducible first | exact HB.out | apply Zac | apply Zaa | apply Zab) | exact HB.out)); (case side2 => exact Kd.R_tight rfl HO108.out); rintro e w15 ⟨v110, rfl, ho0, hb, hkp⟩; refine ⟨_, rfl, ?_⟩; have n0_ := Zad.mk (Kd.R_mono (ok' := fun k_ => some k_ ≠ (v110 : Value).ownBlock) (Kd.R_keptB (HO104.out) hkp (fun k_ hk_ hs_ => (hk_.2) hs_)) (fun k_ hk_ => fun e_ => Or.elim (ho0.1 k_ e_.symm) (fun hs_ => hk_.2.1 hs_) (fun hn_ => Nat.not_le.2 hk_.2.2 hn_))); have n1_ := Zad.mk (Kd.R_mono (ok' := fun k_ => some k_ ≠ (.slice Ao11 t101.length co11 : Value).ownBlock) ho0 (fun k_ hk_ => Or.elim hk_ (fun hs_ => fun e_ => (((HO104.out).1 k_ e_.symm).2) hs_) (fun hn_ => (Kd.fresh' (Kd.R_lt (by (with_reducible repeat (first | apply Kd.R_alloc | apply Kd.R_drewN | apply Kd.R_drew)); exact HO104.out)) k_ hn_)))); have n2_ := Zad.mk (hb); clear HO104; clear HB; clear HO108; have HO104 := n0_; have HO111 := n1_; have HB := n2_; obtain ⟨Ao16, co16, eo16⟩ := Kd.R_slice HO111.out; subst eo16))
  go_ret2
  exact ⟨by first | rfl | (simp [Zap, Zao] <;> rfl) | (simp [*, Zap, Zao] <;> rfl), by repeat (first | (with_reducible first | exact HB.out | apply Zac | apply Zaa | apply Zab) | exact HB.out)⟩
 ·replace c6 := Bool.eq_false_iff.mpr c6
  subst c6
  have H1 : (some (false, false)) = some (r1, r2) := by rw [if_neg (show ¬ (false = true) by decide)] at H; exact H
  clear H
  have H := H1
  clear H1
  simp only [Option.some.injEq, Prod.mk.injEq] at H
  obtain ⟨rfl, rfl⟩ := H
  go_enter Tryz.func19, Tryz.ntmps19
  go_wp2_with (first | ((with_reducible refine Zas (f := 47) rfl ?_); refine Zbg (some 17) rfl rfl Tryz.func47 (by kernel_rfl) rfl #[.string a0, .slice A1 l1.length c1, .slice A2 l2.length c2, .string a3] rfl (by (try simp only [List.map_toArray, List.map_cons, List.map_nil]); first | done | rfl | (simp only [List.length_drop, List.length_take]; rfl)) ?_; (with_reducible refine (Zc0.calls k a0 _ _ l1 _ _ l2 a3 t101 false _ ?side1 ?side2 ?side3 ?side4 A5.out).mono ?_); (case side1 => repeat (first | exact HR1.out | (with_reducible refine Kd.C_alloc ?_ _) | (with_reducible refine Kd.C_drewN ?_ _) | (with_reducible refine Kd.C_drew ?_))); (case side2 => exact HC1.out); (case side3 => repeat (first | exact HR2.out | (with_reducible refine Kd.C_alloc ?_ _) | (with_reducible refine Kd.C_drewN ?_ _) | (with_reducible refine Kd.C_drew ?_))); (case side4 => exact HC2.out); rintro e w17 ⟨v103, rfl, ho0, hb⟩; refine ⟨_, rfl, ?_⟩; have n0_ := Zad.mk (Kd.R_lower ho0 (Zak (by with_reducible repeat first | exact HB.out | apply Zac | apply Zaa | apply Zab))); have n1_ := Zad.mk (Zal (by with_reducible repeat first | exact HB.out | apply Zac | apply Zaa | apply Zab) hb); clear HB; have HO104 := n0_; have HB := n1_))
  go_ret2
  exact ⟨by first | rfl | (simp [Zap, Zao] <;> rfl) | (simp [*, Zap, Zao] <;> rfl), by repeat (first | (with_reducible first | exact HB.out | apply Zac | apply Zaa | apply Zab) | exact HB.out)⟩
def Za6.l0 : Nat → List Int → List Int → Int → Option (Bool)
 | 0, _, _, _ => none
 | k + 1, x0, x1, x5 => if x5 < (x0.length : Int) then (if 0 ≤ x5 then (if x5 < (x1.length : Int) then (if (rd x0 x5) = (rd x1 x5) then (Za6.l0 k x0 x1 (wrap64 (x5 + 1))) else (some false)) else (none)) else (none)) else (some true)
def Za6.f (k : Nat) (l0 : List Int) (l1 : List Int) : Option (Bool) := if (l0.length : Int) = (l1.length : Int) then (Za6.l0 k l0 l1 0) else (some false)
set_option maxHeartbeats 8000000 in
set_option maxRecDepth 100000 in
theorem Za6.calls (k : Nat) (A0 : Option Addr) (c0 : Nat) (l0 : List Int) (A1 : Option Addr) (c1 : Nat) (l1 : List Int) (r : Bool) (w : World) (hr0 : Kd.C (Kd.int .i64) w A0 l0.length l0) (hc0 : l0.length ≤ c0) (hr1 : Kd.C (Kd.int .i64) w A1 l1.length l1) (hc1 : l1.length ≤ c1) (h : Za6.f k l0 l1 = some r) :
  Calls Tryz.prog 20 #[.slice A0 l0.length c0, .slice A1 l1.length c1] w fun e w' => e = .returned (.bool r) ∧ Za2 w w' := by
 have HR0 := Zad.mk hr0
 have HC0 := Zad.mk hc0
 clear hr0 hc0
 have HR1 := Zad.mk hr1
 have HC1 := Zad.mk hc1
 clear hr1 hc1
 have H : (if (l0.length : Int) = (l1.length : Int) then (Za6.l0 k l0 l1 0) else (some false)) = some r := h
 clear h
 by_cases c3 : (l0.length : Int) = (l1.length : Int)
 ·rw [if_pos c3] at H
  have c3b0 : ((l0.length : Int) == (l1.length : Int)) = true := beq_iff_eq.mpr c3
  have c3b1 : ((l0.length : Int) != (l1.length : Int)) = false := bne_eq_false_iff_eq.mpr c3
  have c3b2 : (l0.length == l1.length) = true := by first | simpa using c3 | (simp at c3 ⊢; omega)
  clear c3
  have H' := Zad.mk H
  clear H
  go_enter Tryz.func20, Tryz.ntmps20
  go_wp2
  repeat (go_quiet (fail); try go_wp2)
  go_loopg [5] k (fun kq v5 w' => ∃ (x5_1 : Int), v5 = .int .i64 x5_1 ∧ Zad (Za6.l0 kq l0 l1 x5_1 = some r) ∧ Zad (kq ≤ k) ∧ Za2 w w')
  case atStart => exact ⟨(0), (by first | rfl | (simp; done) | (simp [*]; done)), H', ⟨Nat.le_refl _⟩, by repeat (first | exact Za2.refl _ | apply Za2.step)⟩
  case round =>
   clear H'
   obtain ⟨x5_1, rfl, HA, HK1, ⟨m1, rfl⟩⟩ := hrel
   cases gk with
   | zero => exact absurd HA.out (by simp [Za6.l0])
   | succ k1 =>
    have H := HA.out
    clear HA
    simp only [Za6.l0] at H
    by_cases c4 : x5_1 < (l0.length : Int)
    ·rw [if_pos c4] at H
     have c4b0 : decide (x5_1 < (l0.length : Int)) = true := decide_eq_true c4
     clear c4
     by_cases c5 : 0 ≤ x5_1
     ·rw [if_pos c5] at H
      have c5b0 : decide (0 ≤ x5_1) = true := decide_eq_true c5
      clear c5
      by_cases c6 : x5_1 < (l1.length : Int)
      ·rw [if_pos c6] at H
       have c6b0 : decide (x5_1 < (l1.length : Int)) = true := decide_eq_true c6
       clear c6
       by_cases c7 : (rd l0 x5_1) = (rd l1 x5_1)
       ·rw [if_pos c7] at H
        have c7b0 : ((rd l0 x5_1) == (rd l1 x5_1)) = true := beq_iff_eq.mpr c7
        have c7b1 : ((rd l0 x5_1) != (rd l1 x5_1)) = false := bne_eq_false_iff_eq.mpr c7
        clear c7
        have H' := Zad.mk H
        clear H
        have p101 : 0 ≤ (x5_1 : Int) := of_decide_eq_true (by first | (with_reducible assumption) | assumption)
        have q101 : x5_1 < (l0.length : Int) := of_decide_eq_true (by first | (with_reducible assumption) | assumption)
        obtain ⟨ad101, e101, hx101_0⟩ := Kd.at_int HR0.out x5_1 p101 q101
        cases e101
        replace p101 := eq_true p101
        replace q101 := eq_true q101
        have p102 : 0 ≤ (x5_1 : Int) := of_decide_eq_true (by first | (with_reducible assumption) | assumption)
        have q102 : x5_1 < (l1.length : Int) := of_decide_eq_true (by first | (with_reducible assumption) | assumption)
        obtain ⟨ad102, e102, hx102_0⟩ := Kd.at_int HR1.out x5_1 p102 q102
        cases e102
        replace p102 := eq_true p102
        replace q102 := eq_true q102
        go_wp2
        repeat (go_quiet (fail); try go_wp2)
        go_roundg k1
        case measure => have := HK1.out; omega
        case rel => exact ⟨(wrap64 (x5_1 + 1)), (by first | rfl | (simp; done) | (simp [*]; done)), H', ⟨by have := HK1.out; omega⟩, by repeat (first | exact Za2.refl _ | apply Za2.step)⟩
       ·rw [if_neg c7] at H
        have c7b0 : ((rd l0 x5_1) == (rd l1 x5_1)) = false := beq_eq_false_iff_ne.mpr c7
        have c7b1 : ((rd l0 x5_1) != (rd l1 x5_1)) = true := bne_iff_ne.mpr c7
        obtain rfl := Option.some.inj H
        have p101 : 0 ≤ (x5_1 : Int) := of_decide_eq_true (by first | (with_reducible assumption) | assumption)
        have q101 : x5_1 < (l0.length : Int) := of_decide_eq_true (by first | (with_reducible assumption) | assumption)
        obtain ⟨ad101, e101, hx101_0⟩ := Kd.at_int HR0.out x5_1 p101 q101
        cases e101
        replace p101 := eq_true p101
        replace q101 := eq_true q101
        have p102 : 0 ≤ (x5_1 : Int) := of_decide_eq_true (by first | (with_reducible assumption) | assumption)
        have q102 : x5_1 < (l1.length : Int) := of_decide_eq_true (by first | (with_reducible assumption) | assumption)
        obtain ⟨ad102, e102, hx102_0⟩ := Kd.at_int HR1.out x5_1 p102 q102
        cases e102
        replace p102 := eq_true p102
        replace q102 := eq_true q102
        go_wp2
        repeat (go_quiet (fail); try go_wp2)
        go_ret
        exact ⟨by first | rfl | (simp; done) | (simp [*]; done), by repeat (first | exact Za2.refl _ | apply Za2.step)⟩
      ·rw [if_neg c6] at H
       exact absurd H (by simp)
     ·rw [if_neg c5] at H
      exact absurd H (by simp)
    ·rw [if_neg c4] at H
     have c4b0 : decide (x5_1 < (l0.length : Int)) = false := decide_eq_false c4
     clear c4
     obtain rfl := Option.some.inj H
     go_wp2
     repeat (go_quiet (fail); try go_wp2)
     go_ret
     exact ⟨by first | rfl | (simp; done) | (simp [*]; done), by repeat (first | exact Za2.refl _ | apply Za2.step)⟩
 ·rw [if_neg c3] at H
  have c3b0 : ((l0.length : Int) == (l1.length : Int)) = false := beq_eq_false_iff_ne.mpr c3
  have c3b1 : ((l0.length : Int) != (l1.length : Int)) = true := bne_iff_ne.mpr c3
  have c3b2 : (l0.length == l1.length) = false := by first | simpa using c3 | (simp at c3 ⊢; omega)
  obtain rfl := Option.some.inj H
  go_enter Tryz.func20, Tryz.ntmps20
  go_wp2
  repeat (go_quiet (fail); try go_wp2)
  go_ret
  exact ⟨by first | rfl | (simp; done) | (simp [*]; done), by repeat (first | exact Za2.refl _ | apply Za2.step)⟩
end Go.Proofs.YtjohcjkidoalkaaGreatDoor.PA
