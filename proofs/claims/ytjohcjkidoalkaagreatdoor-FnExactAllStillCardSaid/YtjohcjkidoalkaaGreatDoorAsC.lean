/- Contracts of functions and plain lemmas, for the last text. -/
import Derived.Test.YtjohcjkidoalkaaGreatDoorAsB
set_option linter.unusedVariables false
set_option linter.unusedSimpArgs false
namespace Go.Proofs.YtjohcjkidoalkaaGreatDoor.PA
open Go.RowKit Go.PW.PrintWords Go.PW.PrintLast Go.PW.PrintMore
attribute [local go_sem] Zbo Zbm Zbz Zby Zbd Zbc Zbn Zbl
def Zbi.l0 : Nat → List Int → List Int → Int → Int → Option (List Int)
 | 0, _, _, _, _ => none
 | k + 1, x3, x7, x8, x9 => if x9 < x8 then (if 0 ≤ x9 then (if x9 < (x7.length : Int) then ((Zcq.f (rd x7 x9)).bind fun t103 => (if t103 = true then (if x3.length < 17592186044416 then (Zbi.l0 k (x3 ++ [x9]) x7 x8 (wrap64 (x9 + 1))) else (none)) else (Zbi.l0 k x3 x7 x8 (wrap64 (x9 + 1))))) else (none)) else (none)) else (some x3)
def Zbi.f (k : Nat) (a0_0 : Int) (a0_1 : Int) (l0_2 : List Int) : Option (List Int) := Zbi.l0 k ([] : List Int) l0_2 (l0_2.length : Int) 0
set_option maxHeartbeats 8000000 in
set_option maxRecDepth 100000 in
theorem Zbi.calls (k : Nat) (a0_0 : Int) (a0_1 : Int) (A0_2 : Option Addr) (c0_2 : Nat) (l0_2 : List Int) (r : List Int) (w : World) (hr0_2 : Kd.C (Kd.int .u8) w A0_2 l0_2.length l0_2) (hc0_2 : l0_2.length ≤ c0_2) (h : Zbi.f k a0_0 a0_1 l0_2 = some r) :
  Calls Tryz.prog 122 #[.agg #[.int .i64 a0_0, .int .i64 a0_1, .slice A0_2 l0_2.length c0_2]] w fun e w' => ∃ v0_ : Value, e = .returned (v0_) ∧ Kd.R (Kd.int .i64) 3 w' w.heap.size (fun _ => True) v0_ r ∧ Below w.heap.size w w' := by
 have hu52 := Tryz.underlying52
 have HR0_2 := Zad.mk hr0_2
 have HC0_2 := Zad.mk hc0_2
 clear hr0_2 hc0_2
 have HB := Zad.mk (Below.refl w.heap.size w)
 have H : (Zbi.l0 k ([] : List Int) l0_2 (l0_2.length : Int) 0) = some r := h
 clear h
 have H' := Zad.mk H
 clear H
 go_enter Tryz.func122, Tryz.ntmps122
 go_wp2_with (first | ((with_reducible refine Zay (N := 1) rfl ?_); refine Zaz ?hg (N := 1) ?hd (cs := #[.int .i64 a0_0, .int .i64 a0_1, .slice A0_2 l0_2.length c0_2]) (t := 52) ?hr ?_; (case hd => rfl); (case hg => rfl); (case hr => first | (go_simp; done) | (go_simp; rfl)); intro g01 hg w2 hbox hb; have n0_ := Zad.mk (Zal (by with_reducible repeat first | exact HB.out | apply Zac | apply Zaa | apply Zab) hb); have n1_ := Zad.mk (hbox); have n2_ := Zad.mk ((by rw [hg]; exact (Zak (by with_reducible repeat first | exact HB.out | apply Zac | apply Zaa | apply Zab)) : w.heap.size ≤ g01)); have n3_ := n2_; clear HB; have HB := n0_; have K01 := n1_; have W01 := n2_; have E01 := n3_; clear hb hbox hg; have hcz3_0 : w2.cell? ⟨g01, 0, none⟩ = some (.int .i64 a0_0) := (Zai K01.out 0).trans rfl; have hcz3_1 : w2.cell? ⟨g01, 1, none⟩ = some (.int .i64 a0_1) := (Zai K01.out 1).trans rfl; have hcz3_2 : w2.cell? ⟨g01, 2, none⟩ = some (.slice A0_2 l0_2.length c0_2) := (Zai K01.out 2).trans rfl; have hfz3_0 := Zae K01.out 0; have hfz3_1 := Zae K01.out 1; have hfz3_2 := Zae K01.out 2))
 go_loopg [3, 9] k (fun kq v3 v9 w' => ∃ (x3_1 : List Int) (x9_1 : Int), v9 = .int .i64 x9_1 ∧ Zad (Zbi.l0 kq x3_1 l0_2 (l0_2.length : Int) x9_1 = some r) ∧ Zad (kq ≤ k) ∧ Zad (Kd.R (Kd.int .i64) 3 w' w.heap.size (fun _ => True) v3 x3_1) ∧ Zad (w'.heap[g01]? = some (.cells #[.int .i64 a0_0, .int .i64 a0_1, (.slice A0_2 l0_2.length c0_2)] 52 (0, 0))) ∧ Zad (Below w.heap.size w w'))
 case atStart => exact ⟨(([] : List Int)), (0), (by first | rfl | (simp; done) | (simp [*]; done)), H', ⟨Nat.le_refl _⟩, ⟨by first | exact Kd.R_nil _ _ _ _ _ | exact Kd.N_nil _ _ _ _ _ | exact Kd.V_nil _ _ _ _ _ | exact Kd.Q_nil _ _ _ _ _ | exact Kd.S_nil _ _ _ _ _⟩, ⟨by (with_reducible repeat (first | refine Zag ?_ _ | refine Zaj ?_ | refine Zaf ?_ _)); exact K01.out⟩, ⟨by with_reducible repeat first | exact HB.out | apply Zac | apply Zaa | apply Zab | refine Zah ?_ E01.out⟩⟩
 case round =>
  clear H'
  obtain ⟨x3_1, x9_1, rfl, HA, HK1, HO_3, K01, HB⟩ := hrel
  cases gk with
  | zero => exact absurd HA.out (by simp [Zbi.l0])
  | succ k1 =>
   have H := HA.out
   clear HA
   simp only [Zbi.l0] at H
   by_cases c4 : x9_1 < (l0_2.length : Int)
   ·rw [if_pos c4] at H
    have c4b0 : decide (x9_1 < (l0_2.length : Int)) = true := decide_eq_true c4
    clear c4
    by_cases c5 : 0 ≤ x9_1
    ·rw [if_pos c5] at H
     have c5b0 : decide (0 ≤ x9_1) = true := decide_eq_true c5
     clear c5
     by_cases c6 : x9_1 < (l0_2.length : Int)
     ·rw [if_pos c6] at H
      have c6b0 : decide (x9_1 < (l0_2.length : Int)) = true := decide_eq_true c6
      clear c6
      replace H := Option.bind_eq_some_iff.mp H
      obtain ⟨t103, A70, H⟩ := H
      replace H : (if t103 = true then (if x3_1.length < 17592186044416 then (Zbi.l0 k1 (x3_1 ++ [x9_1]) l0_2 (l0_2.length : Int) (wrap64 (x9_1 + 1))) else (none)) else (Zbi.l0 k1 x3_1 l0_2 (l0_2.length : Int) (wrap64 (x9_1 + 1)))) = some r := H
      have A7 := Zad.mk A70
      clear A70
      by_cases c8 : t103 = true
      ·subst c8
       have H1 : (if x3_1.length < 17592186044416 then (Zbi.l0 k1 (x3_1 ++ [x9_1]) l0_2 (l0_2.length : Int) (wrap64 (x9_1 + 1))) else (none)) = some r := by rw [if_pos rfl] at H; exact H
       clear H
       have H := H1
       clear H1
       by_cases c9 : x3_1.length < 17592186044416
       ·rw [if_pos c9] at H
        have LMc9 := Zad.mk c9
        clear c9
        obtain ⟨y104, hy104⟩ : ∃ y_ : List Int, y_ = (x3_1 ++ [x9_1]) := ⟨_, rfl⟩
        replace H : (Zbi.l0 k1 y104 l0_2 (l0_2.length : Int) (wrap64 (x9_1 + 1))) = some r := by first | (rw [hy104]; with_reducible exact H) | (have H2_ := (Option.bind_some _ _).symm.trans H; rw [hy104]; with_reducible exact H2_) | (have H2_ := (Option.bind_some _ _).symm.trans H; with_reducible exact H2_) | with_reducible exact H | (rw [hy104]; exact H) | exact H
        have Ny104 := Zad.mk hy104
        clear hy104
        have H' := Zad.mk H
        clear H
        have p102 : 0 ≤ (x9_1 : Int) := of_decide_eq_true (by first | (with_reducible assumption) | assumption)
        have q102 : x9_1 < (l0_2.length : Int) := of_decide_eq_true (by first | (with_reducible assumption) | assumption)
        obtain ⟨ad102, e102, hx102_0⟩ := Kd.at_int HR0_2.out x9_1 p102 q102
        cases e102
        (first | (replace hx102_0 := (HB.out.cell (World.block_lt_of_cell? w _ hx102_0)).trans hx102_0) | skip)
        replace p102 := eq_true p102
        replace q102 := eq_true q102
        go_wp2_with (first | ((with_reducible refine Zau (f := 91) rfl ?_); refine Zbr (some 15) rfl rfl Tryz.func91 (by kernel_rfl) rfl #[.int .u8 (rd l0_2 x9_1)] rfl (by (try simp only [List.map_toArray, List.map_cons, List.map_nil]); first | done | rfl | (simp only [List.length_drop, List.length_take]; rfl)) ?_; (with_reducible refine (Zcq.calls (rd l0_2 x9_1) true _ A7.out).mono ?_); rintro e w' ⟨rfl, ⟨nd, rfl⟩⟩; refine ⟨_, rfl, ?_⟩) | ((with_reducible refine Za9 (b := .append) (xs := #[.tmp 16, .tmp 18]) rfl ?_); at_builtin; refine Kd.R_append (Kd.int .i64) (w0 := w) w.heap.size rfl (.tmp 16) (.tmp 18) 31 3 (.int .i64 0) 8 rfl Tryz.underlying31 info3 rfl (by decide) (by omega) u3 x3_1 x9_1 [.int .i64 x9_1] (fun _ => True) (fun _ => False) rfl rfl ?aP (fun _ hk => hk.elim) ?aF ?aO ?aB ?aS ?aL ?_; (case aP => exact rfl); (case aB => exact (by with_reducible repeat first | exact HB.out | apply Zac | apply Zaa | apply Zab | refine Zah ?_ E01.out)); (case aF => exact (fun _ _ => trivial)); (case aO => exact (by (with_reducible repeat (first | apply Kd.R_alloc | apply Kd.R_drewN | apply Kd.R_drew)); exact HO_3.out)); (case aS => exact (Zak (by with_reducible repeat first | exact HB.out | apply Zac | apply Zaa | apply Zab | refine Zah ?_ E01.out))); (case aL => have := LMc9.out; omega); intro v105 w10 ho hb hg hat; rw [← Ny104.out] at ho; have n0_ := Zad.mk (Zbf (g := g01) (o := .cells #[.int .i64 a0_0, .int .i64 a0_1, .slice (some ad102) l0_2.length c0_2] 52 (0, 0)) (by (with_reducible repeat (first | refine Zag ?_ _ | refine Zaj ?_ | refine Zaf ?_ _)); exact K01.out) hg (Kd.R_ne HO_3.out K01.out (by decide))); have n1_ := Zad.mk (hb); have n2_ := Zad.mk (ho); clear K01; clear HB; clear HO_3; have K01 := n0_; have HB := n1_; have HO106 := n2_; clear ho hb hg hat))
        go_roundg k1
        case measure => have := HK1.out; omega
        case rel => exact ⟨(y104), (wrap64 (x9_1 + 1)), (by first | rfl | (simp; done) | (simp [*]; done)), H', ⟨by have := HK1.out; omega⟩, ⟨by (with_reducible repeat (first | apply Kd.R_alloc | apply Kd.R_drewN | apply Kd.R_drew)); exact HO106.out⟩, ⟨by (with_reducible repeat (first | refine Zag ?_ _ | refine Zaj ?_ | refine Zaf ?_ _)); exact K01.out⟩, ⟨by with_reducible repeat first | exact HB.out | apply Zac | apply Zaa | apply Zab | refine Zah ?_ E01.out⟩⟩
       ·rw [if_neg c9] at H
        exact absurd H (by simp)
      ·replace c8 := Bool.eq_false_iff.mpr c8
       subst c8
       have H1 : (Zbi.l0 k1 x3_1 l0_2 (l0_2.length : Int) (wrap64 (x9_1 + 1))) = some r := by rw [if_neg (show ¬ (false = true) by decide)] at H; exact H
       clear H
       have H := H1
       clear H1
       have H' := Zad.mk H
       clear H
       have p102 : 0 ≤ (x9_1 : Int) := of_decide_eq_true (by first | (with_reducible assumption) | assumption)
       have q102 : x9_1 < (l0_2.length : Int) := of_decide_eq_true (by first | (with_reducible assumption) | assumption)
       obtain ⟨ad102, e102, hx102_0⟩ := Kd.at_int HR0_2.out x9_1 p102 q102
       cases e102
       (first | (replace hx102_0 := (HB.out.cell (World.block_lt_of_cell? w _ hx102_0)).trans hx102_0) | skip)
       replace p102 := eq_true p102
       replace q102 := eq_true q102
       go_wp2_with (first | ((with_reducible refine Zau (f := 91) rfl ?_); refine Zbr (some 15) rfl rfl Tryz.func91 (by kernel_rfl) rfl #[.int .u8 (rd l0_2 x9_1)] rfl (by (try simp only [List.map_toArray, List.map_cons, List.map_nil]); first | done | rfl | (simp only [List.length_drop, List.length_take]; rfl)) ?_; (with_reducible refine (Zcq.calls (rd l0_2 x9_1) false _ A7.out).mono ?_); rintro e w' ⟨rfl, ⟨nd, rfl⟩⟩; refine ⟨_, rfl, ?_⟩))
       go_roundg k1
       case measure => have := HK1.out; omega
       case rel => exact ⟨(x3_1), (wrap64 (x9_1 + 1)), (by first | rfl | (simp; done) | (simp [*]; done)), H', ⟨by have := HK1.out; omega⟩, ⟨by (with_reducible repeat (first | apply Kd.R_alloc | apply Kd.R_drewN | apply Kd.R_drew)); exact HO_3.out⟩, ⟨by (with_reducible repeat (first | refine Zag ?_ _ | refine Zaj ?_ | refine Zaf ?_ _)); exact K01.out⟩, ⟨by with_reducible repeat first | exact HB.out | apply Zac | apply Zaa | apply Zab | refine Zah ?_ E01.out⟩⟩
     ·rw [if_neg c6] at H
      exact absurd H (by simp)
    ·rw [if_neg c5] at H
     exact absurd H (by simp)
   ·rw [if_neg c4] at H
    have c4b0 : decide (x9_1 < (l0_2.length : Int)) = false := decide_eq_false c4
    clear c4
    obtain rfl := Option.some.inj H
    go_wp2
    go_ret
    exact ⟨_, by first | rfl | (simp [Zao, Zan] <;> rfl) | (simp [*, Zao, Zan] <;> rfl), by (with_reducible repeat (first | apply Kd.R_alloc | apply Kd.R_drewN | apply Kd.R_drew)); exact HO_3.out, by repeat (first | (with_reducible first | exact HB.out | apply Zac | apply Zaa | apply Zab | refine Zah ?_ E01.out) | exact HB.out)⟩
mutual
def Za6.j0 : Nat → Bool → Int → Int → List Int → Option (Int × Int × List Int × Int × Bool)
 | 0, _, _, _, _ => none
 | k + 1, x22, X090, X091, X092 => if x22 = true then (some (X090, X091, X092, 0, false)) else (Za6.l0 k 0 X092 (X092.length : Int) 0 X090 X091 X092)
def Za6.l0 : Nat → Int → List Int → Int → Int → Int → Int → List Int → Option (Int × Int × List Int × Int × Bool)
 | 0, _, _, _, _, _, _, _ => none
 | k + 1, x7, x25, x26, x27, X090, X091, X092 => if x27 < x26 then (if 0 ≤ x27 then (if x27 < (x25.length : Int) then (if (rd x25 x27) = 46 then (Za6.l0 k (wrap64 (x7 + 1)) x25 x26 (wrap64 (x27 + 1)) X090 X091 X092) else (Za6.l0 k x7 x25 x26 (wrap64 (x27 + 1)) X090 X091 X092)) else (none)) else (none)) else (some (X090, X091, X092, x7, true))
end
def Za6.f (k : Nat) (a0 : ByteArray) : Option (Int × Int × List Int × Int × Bool) := (Zas.f k a0).bind fun bt102 => (if bt102.2.2.2 = true then ((Zbi.f k bt102.1 bt102.2.1 bt102.2.2.1).bind fun t109 => (Za6.j0 k (decide ((t109.length : Int) > 0)) bt102.1 bt102.2.1 bt102.2.2.1)) else (Za6.j0 k true bt102.1 bt102.2.1 bt102.2.2.1))
set_option maxHeartbeats 8000000 in
set_option maxRecDepth 100000 in
theorem Za6.calls (k : Nat) (a0 : ByteArray) (r1 : Int) (r2 : Int) (r3 : List Int) (r4 : Int) (r5 : Bool) (w : World) (h : Za6.f k a0 = some (r1, r2, r3, r4, r5)) :
  Calls Tryz.prog 74 #[.string a0] w fun e w' => ∃ v2_ : Value, e = .returned (.tuple #[.agg #[.int .i64 r1, .int .i64 r2, v2_], .int .i64 r4, .bool r5]) ∧ Kd.R (Kd.int .u8) 5 w' w.heap.size (fun _ => True) v2_ r3 ∧ Below w.heap.size w w' := by
 have hu52 := Tryz.underlying52
 have HB := Zad.mk (Below.refl w.heap.size w)
 have H : ((Zas.f k a0).bind fun bt102 => (if bt102.2.2.2 = true then ((Zbi.f k bt102.1 bt102.2.1 bt102.2.2.1).bind fun t109 => (Za6.j0 k (decide ((t109.length : Int) > 0)) bt102.1 bt102.2.1 bt102.2.2.1)) else (Za6.j0 k true bt102.1 bt102.2.1 bt102.2.2.1))) = some (r1, r2, r3, r4, r5) := h
 clear h
 replace H := Option.bind_eq_some_iff.mp H
 obtain ⟨⟨t102, t103, t104, t107⟩, A20, H⟩ := H
 replace H : (if t107 = true then ((Zbi.f k t102 t103 t104).bind fun t109 => (Za6.j0 k (decide ((t109.length : Int) > 0)) t102 t103 t104)) else (Za6.j0 k true t102 t103 t104)) = some (r1, r2, r3, r4, r5) := H
 have A2 := Zad.mk A20
 clear A20
 have HC3 := Zad.mk H
 clear H
 go_enter Tryz.func74, Tryz.ntmps74
 go_upto_region 2 with (first | ((with_reducible refine Zay (N := 2) rfl ?_); (try (refine Zd4 (by rfl) ?_; dsimp only)); refine Zaz ?hg (N := 2) ?hd (cs := #[.int .i64 0, .int .i64 0, .slice none 0 0]) (t := 52) ?hr ?_; (case hd => rfl); (case hg => rfl); (case hr => first | (go_simp; done) | (go_simp; rfl)); intro g01 hg w4 hbox hb; have n0_ := Zad.mk (Zal (by with_reducible repeat first | exact HB.out | apply Zac | apply Zaa | apply Zab) hb); have n1_ := Zad.mk (hbox); have n2_ := Zad.mk ((by rw [hg]; exact (Zak (by with_reducible repeat first | exact HB.out | apply Zac | apply Zaa | apply Zab)) : w.heap.size ≤ g01)); have n3_ := n2_; clear HB; have HB := n0_; have K01 := n1_; have W01 := n2_; have E01 := n3_; clear hb hbox hg) | ((with_reducible refine Zau (f := 64) rfl ?_); refine Zbr (some 12) rfl rfl Tryz.func64 (by kernel_rfl) rfl #[.string a0] rfl (by (try simp only [List.map_toArray, List.map_cons, List.map_nil]); first | done | rfl | (simp only [List.length_drop, List.length_take]; rfl)) ?_; (with_reducible refine (Zas.calls k a0 t102 t103 t104 t107 _ A2.out).mono ?_); rintro e w5 ⟨v105, rfl, ho0, hb⟩; refine ⟨_, rfl, ?_⟩; have n0_ := Zad.mk (Kd.R_lower ho0 (Zak (by with_reducible repeat first | exact HB.out | apply Zac | apply Zaa | apply Zab | refine Zah ?_ E01.out))); have n1_ := Zad.mk (Zav (g := g01) (o := .cells #[.int .i64 0, .int .i64 0, .slice none 0 0] 52 (0, 0)) (by (with_reducible repeat (first | refine Zag ?_ _ | refine Zaj ?_ | refine Zaf ?_ _)); exact K01.out) hb); have n2_ := Zad.mk (Zal (by with_reducible repeat first | exact HB.out | apply Zac | apply Zaa | apply Zab | refine Zah ?_ E01.out) hb); clear K01; clear HB; have HO106 := n0_; have K01 := n1_; have HB := n2_) | ((with_reducible refine Zay (N := 5) rfl ?_); (try (refine Zd4 (by rfl) ?_; dsimp only)); refine Zaz ?hg (N := 5) ?hd (cs := #[.int .i64 0, .int .i64 0, .slice none 0 0]) (t := 52) ?hr ?_; (case hd => rfl); (case hg => rfl); (case hr => first | (go_simp; done) | (go_simp; rfl)); intro g08 hg w6 hbox hb; have n0_ := Zad.mk (Kd.R_below (by (with_reducible repeat (first | apply Kd.R_alloc | apply Kd.R_drewN | apply Kd.R_drew)); exact HO106.out) hb); have n1_ := Zad.mk (Zav (g := g01) (o := .cells #[.int .i64 0, .int .i64 0, .slice none 0 0] 52 (0, 0)) (by (with_reducible repeat (first | refine Zag ?_ _ | refine Zaj ?_ | refine Zaf ?_ _)); exact K01.out) hb); have n2_ := Zad.mk (Zal (by with_reducible repeat first | exact HB.out | apply Zac | apply Zaa | apply Zab | refine Zah ?_ E01.out) hb); have n3_ := Zad.mk (hbox); have n4_ := Zad.mk ((by rw [hg]; exact (Zak (by with_reducible repeat first | exact HB.out | apply Zac | apply Zaa | apply Zab | refine Zah ?_ E01.out)) : w.heap.size ≤ g08)); have n5_ := Zad.mk ((by rw [hg]; exact (Zak (by with_reducible repeat first | exact HB.out | apply Zac | apply Zaa | apply Zab | refine Zah ?_ E01.out)) : w.heap.size ≤ g08)); have n6_ := Zad.mk ((by rw [hg]; exact Nat.ne_of_lt (Zct (g := g01) (o := .cells #[.int .i64 0, .int .i64 0, .slice none 0 0] 52 (0, 0)) (by (with_reducible repeat (first | refine Zag ?_ _ | refine Zaj ?_ | refine Zaf ?_ _)); exact K01.out)) : g01 ≠ g08)); have n7_ := Zad.mk ((by rw [hg]; exact Nat.ne_of_gt (Zct (g := g01) (o := .cells #[.int .i64 0, .int .i64 0, .slice none 0 0] 52 (0, 0)) (by (with_reducible repeat (first | refine Zag ?_ _ | refine Zaj ?_ | refine Zaf ?_ _)); exact K01.out)) : g08 ≠ g01)); clear HO106; clear K01; clear HB; have HO106 := n0_; have K01 := n1_; have HB := n2_; have K08 := n3_; have W08 := n4_; have E08 := n5_; have N01_08 := n6_; have N08_01 := n7_; clear hb hbox hg; have hnb7 := N08_01.out; have hnc7 := N01_08.out; have hcz8_0 : w6.cell? ⟨g08, 0, none⟩ = some (.int .i64 0) := (Zai K08.out 0).trans rfl; have hcz8_1 : w6.cell? ⟨g08, 1, none⟩ = some (.int .i64 0) := (Zai K08.out 1).trans rfl; have hcz8_2 : w6.cell? ⟨g08, 2, none⟩ = some (.slice none 0 0) := (Zai K08.out 2).trans rfl; have hfz8_0 := Zae K08.out 0; have hfz8_1 := Zae K08.out 1; have hfz8_2 := Zae K08.out 2; obtain ⟨Ao9, co9, eo9⟩ := Kd.R_slice HO106.out; subst eo9))
 (try simp only [Act.put, List.setIfInBounds_toArray, List.set_cons_zero, List.set_cons_succ])
 go_cut [22] (fun v22 wc => ∃ (kq : Nat) (x22_2 : Bool), v22 = .bool x22_2 ∧ Zad (Za6.j0 kq x22_2 t102 t103 t104 = some (r1, r2, r3, r4, r5)) ∧ Zad (kq ≤ k) ∧ Zad (Kd.R (Kd.int .u8) 5 wc w.heap.size (fun _ => True) (.slice Ao9 t104.length co9) t104) ∧ Zad (wc.heap[g01]? = some (.cells #[.int .i64 0, .int .i64 0, (.slice none 0 0)] 52 (0, 0))) ∧ Zad (wc.heap[g08]? = some (.cells #[.int .i64 t102, .int .i64 t103, (.slice Ao9 t104.length co9)] 52 (0, 0))) ∧ Zad (Below w.heap.size w wc))
 case first =>
  have H := HC3.out
  clear HC3
  by_cases c10 : t107 = true
  ·subst c10
   have H1 : ((Zbi.f k t102 t103 t104).bind fun t109 => (Za6.j0 k (decide ((t109.length : Int) > 0)) t102 t103 t104)) = some (r1, r2, r3, r4, r5) := by rw [if_pos rfl] at H; exact H
   clear H
   have H := H1
   clear H1
   replace H := Option.bind_eq_some_iff.mp H
   obtain ⟨t109, A110, H⟩ := H
   replace H : (Za6.j0 k (decide ((t109.length : Int) > 0)) t102 t103 t104) = some (r1, r2, r3, r4, r5) := H
   have A11 := Zad.mk A110
   clear A110
   have H' := Zad.mk H
   clear H
   have hnb12 := N08_01.out
   have hnc12 := N01_08.out
   have hcz13_0 : w6.cell? ⟨g08, 0, none⟩ = some (.int .i64 0) := (Zai K08.out 0).trans rfl
   have hcz13_1 : w6.cell? ⟨g08, 1, none⟩ = some (.int .i64 0) := (Zai K08.out 1).trans rfl
   have hcz13_2 : w6.cell? ⟨g08, 2, none⟩ = some (.slice none 0 0) := (Zai K08.out 2).trans rfl
   have hfz13_0 := Zae K08.out 0
   have hfz13_1 := Zae K08.out 1
   have hfz13_2 := Zae K08.out 2
   go_wp2_with (first | (go_at_call 122; (with_reducible refine (Zbi.calls k t102 t103 _ _ t104 t109 _ ?side1 ?side2 A11.out).mono ?_); (case side1 => refine (Kd.R_reads' (e := 5) (base := w.heap.size) (ok := fun k_ => True) (n := t104.length) (c := co9) ?_).2.2; exact (by (with_reducible repeat (first | apply Kd.R_alloc | apply Kd.R_drewN | apply Kd.R_drew)); exact (Kd.R_mono (Kd.R_far (p := ⟨g08, 2, none⟩) (Kd.R_far (p := ⟨g08, 1, none⟩) (Kd.R_far (p := ⟨g08, 0, none⟩) (Kd.R_types HO106.out K08.out (by decide)) (fun _ hk => hk.2) (.int .i64 t102)) (fun _ hk => hk.2) (.int .i64 t103)) (fun _ hk => hk.2) (.slice Ao9 t104.length co9)) (fun _ h_ => h_.1)))); (case side2 => exact (Kd.R_reads' HO106.out).2.1); rintro e w14 ⟨v110, rfl, ho0, hb⟩; have n0_ := Zad.mk (Kd.R_below (by (with_reducible repeat (first | apply Kd.R_alloc | apply Kd.R_drewN | apply Kd.R_drew)); exact (Kd.R_mono (Kd.R_far (p := ⟨g08, 2, none⟩) (Kd.R_far (p := ⟨g08, 1, none⟩) (Kd.R_far (p := ⟨g08, 0, none⟩) (Kd.R_types HO106.out K08.out (by decide)) (fun _ hk => hk.2) (.int .i64 t102)) (fun _ hk => hk.2) (.int .i64 t103)) (fun _ hk => hk.2) (.slice Ao9 t104.length co9)) (fun _ h_ => h_.1))) hb); have n1_ := Zad.mk (Kd.R_lower ho0 (Zak (by with_reducible repeat first | exact HB.out | apply Zac | apply Zaa | apply Zab | refine Zah ?_ E01.out | refine Zah ?_ E08.out))); have n2_ := Zad.mk (Zav (g := g01) (o := .cells #[.int .i64 0, .int .i64 0, .slice none 0 0] 52 (0, 0)) (by (with_reducible repeat (first | refine Zag ?_ _ | refine Zaj ?_ | refine Zaf ?_ _)); refine Zb9 ?_ N01_08.out _; (with_reducible repeat (first | refine Zag ?_ _ | refine Zaj ?_ | refine Zaf ?_ _)); refine Zb9 ?_ N01_08.out _; (with_reducible repeat (first | refine Zag ?_ _ | refine Zaj ?_ | refine Zaf ?_ _)); refine Zb9 ?_ N01_08.out _; (with_reducible repeat (first | refine Zag ?_ _ | refine Zaj ?_ | refine Zaf ?_ _)); exact K01.out) hb); have n3_ := Zad.mk (Zav (g := g08) (o := .cells #[.int .i64 t102, .int .i64 t103, .slice Ao9 t104.length co9] 52 (0, 0)) (by (with_reducible repeat (first | refine Zag ?_ _ | refine Zaj ?_ | refine Zaf ?_ _)); refine Za1 (cs := #[.int .i64 t102, .int .i64 t103, .slice none 0 0]) ?_ 2 _ rfl; (with_reducible repeat (first | refine Zag ?_ _ | refine Zaj ?_ | refine Zaf ?_ _)); refine Za1 (cs := #[.int .i64 t102, .int .i64 0, .slice none 0 0]) ?_ 1 _ rfl; (with_reducible repeat (first | refine Zag ?_ _ | refine Zaj ?_ | refine Zaf ?_ _)); refine Za1 (cs := #[.int .i64 0, .int .i64 0, .slice none 0 0]) ?_ 0 _ rfl; (with_reducible repeat (first | refine Zag ?_ _ | refine Zaj ?_ | refine Zaf ?_ _)); exact K08.out) hb); have n4_ := Zad.mk (Zal (by with_reducible repeat first | exact HB.out | apply Zac | apply Zaa | apply Zab | refine Zah ?_ E01.out | refine Zah ?_ E08.out) hb); clear HO106; clear K01; clear K08; clear HB; have HO106 := n0_; have HO111 := n1_; have K01 := n2_; have K08 := n3_; have HB := n4_; obtain ⟨Ao15, co15, eo15⟩ := Kd.R_slice HO111.out; subst eo15))
   go_meet
   case rel => exact ⟨_, (decide ((t109.length : Int) > 0)), (by first | rfl | (simp; done) | (simp [*]; done)), H', ⟨by first | omega | exact Nat.le_refl _⟩, ⟨by (with_reducible repeat (first | apply Kd.R_alloc | apply Kd.R_drewN | apply Kd.R_drew)); exact HO106.out⟩, ⟨by (with_reducible repeat (first | refine Zag ?_ _ | refine Zaj ?_ | refine Zaf ?_ _)); exact K01.out⟩, ⟨by (with_reducible repeat (first | refine Zag ?_ _ | refine Zaj ?_ | refine Zaf ?_ _)); exact K08.out⟩, ⟨by with_reducible repeat first | exact HB.out | apply Zac | apply Zaa | apply Zab | refine Zah ?_ E01.out | refine Zah ?_ E08.out⟩⟩
  ·replace c10 := Bool.eq_false_iff.mpr c10
   subst c10
   have H1 : (Za6.j0 k true t102 t103 t104) = some (r1, r2, r3, r4, r5) := by rw [if_neg (show ¬ (false = true) by decide)] at H; exact H
   clear H
   have H := H1
   clear H1
   have H' := Zad.mk H
   clear H
   go_wp2
   go_meet
   case rel => exact ⟨_, (true), (by first | rfl | (simp; done) | (simp [*]; done)), H', ⟨by first | omega | exact Nat.le_refl _⟩, ⟨by (with_reducible repeat (first | apply Kd.R_alloc | apply Kd.R_drewN | apply Kd.R_drew)); exact Kd.R_mono (Kd.R_far (p := ⟨g08, 2, none⟩) (Kd.R_far (p := ⟨g08, 1, none⟩) (Kd.R_far (p := ⟨g08, 0, none⟩) (Kd.R_types HO106.out K08.out (by decide)) (fun _ hk => hk.2) (.int .i64 t102)) (fun _ hk => hk.2) (.int .i64 t103)) (fun _ hk => hk.2) (.slice Ao9 t104.length co9)) (fun _ hk => trivial)⟩, ⟨by (with_reducible repeat (first | refine Zag ?_ _ | refine Zaj ?_ | refine Zaf ?_ _)); refine Zb9 ?_ N01_08.out _; (with_reducible repeat (first | refine Zag ?_ _ | refine Zaj ?_ | refine Zaf ?_ _)); refine Zb9 ?_ N01_08.out _; (with_reducible repeat (first | refine Zag ?_ _ | refine Zaj ?_ | refine Zaf ?_ _)); refine Zb9 ?_ N01_08.out _; (with_reducible repeat (first | refine Zag ?_ _ | refine Zaj ?_ | refine Zaf ?_ _)); exact K01.out⟩, ⟨by (with_reducible repeat (first | refine Zag ?_ _ | refine Zaj ?_ | refine Zaf ?_ _)); refine Za1 (cs := #[.int .i64 t102, .int .i64 t103, .slice none 0 0]) ?_ 2 _ rfl; (with_reducible repeat (first | refine Zag ?_ _ | refine Zaj ?_ | refine Zaf ?_ _)); refine Za1 (cs := #[.int .i64 t102, .int .i64 0, .slice none 0 0]) ?_ 1 _ rfl; (with_reducible repeat (first | refine Zag ?_ _ | refine Zaj ?_ | refine Zaf ?_ _)); refine Za1 (cs := #[.int .i64 0, .int .i64 0, .slice none 0 0]) ?_ 0 _ rfl; (with_reducible repeat (first | refine Zag ?_ _ | refine Zaj ?_ | refine Zaf ?_ _)); exact K08.out⟩, ⟨by with_reducible repeat first | exact HB.out | apply Zac | apply Zaa | apply Zab | refine Zah ?_ E01.out | refine Zah ?_ E08.out⟩⟩
 case rest =>
  clear HC3
  obtain ⟨kq, x22_2, rfl, HA, HJ2, HO_109002, K01, K08, HB⟩ := hcut
  cases kq with
  | zero => exact absurd HA.out (by simp [Za6.j0])
  | succ kj2 =>
   have H := HA.out
   clear HA
   simp only [Za6.j0] at H
   by_cases c16 : x22_2 = true
   ·subst c16
    have H1 : (some (t102, t103, t104, 0, false)) = some (r1, r2, r3, r4, r5) := by rw [if_pos rfl] at H; exact H
    clear H
    have H := H1
    clear H1
    simp only [Option.some.injEq, Prod.mk.injEq] at H
    obtain ⟨rfl, rfl, rfl, rfl, rfl⟩ := H
    have hnb17 := N08_01.out
    have hnc17 := N01_08.out
    have hcz18_0 : wc.cell? ⟨g08, 0, none⟩ = some (.int .i64 t102) := (Zai K08.out 0).trans rfl
    have hcz18_1 : wc.cell? ⟨g08, 1, none⟩ = some (.int .i64 t103) := (Zai K08.out 1).trans rfl
    have hcz18_2 : wc.cell? ⟨g08, 2, none⟩ = some (.slice Ao9 t104.length co9) := (Zai K08.out 2).trans rfl
    have hfz18_0 := Zae K08.out 0
    have hfz18_1 := Zae K08.out 1
    have hfz18_2 := Zae K08.out 2
    have hcz19_0 : wc.cell? ⟨g01, 0, none⟩ = some (.int .i64 0) := (Zai K01.out 0).trans rfl
    have hcz19_1 : wc.cell? ⟨g01, 1, none⟩ = some (.int .i64 0) := (Zai K01.out 1).trans rfl
    have hcz19_2 : wc.cell? ⟨g01, 2, none⟩ = some (.slice none 0 0) := (Zai K01.out 2).trans rfl
    have hfz19_0 := Zae K01.out 0
    have hfz19_1 := Zae K01.out 1
    have hfz19_2 := Zae K01.out 2
    go_wp2
    refine bodyPost_ret (Zd7 rfl _ _ g01 52 #[.int .i64 t102, .int .i64 t103, .slice Ao9 t104.length co9] (0, 0) _ rfl (by (with_reducible repeat (first | refine Zag ?_ _ | refine Zaj ?_ | refine Zaf ?_ _)); refine Za1 (cs := #[.int .i64 t102, .int .i64 t103, .slice none 0 0]) ?_ 2 _ rfl; (with_reducible repeat (first | refine Zag ?_ _ | refine Zaj ?_ | refine Zaf ?_ _)); refine Za1 (cs := #[.int .i64 t102, .int .i64 0, .slice none 0 0]) ?_ 1 _ rfl; (with_reducible repeat (first | refine Zag ?_ _ | refine Zaj ?_ | refine Zaf ?_ _)); refine Za1 (cs := #[.int .i64 0, .int .i64 0, .slice none 0 0]) ?_ 0 _ rfl; (with_reducible repeat (first | refine Zag ?_ _ | refine Zaj ?_ | refine Zaf ?_ _)); exact K01.out) Tryz.underlying52 rfl (by kernel_rfl)) rfl ?_
    exact ⟨_, by first | rfl | (simp [Zao, Zan] <;> rfl) | (simp [*, Zao, Zan] <;> rfl), by (with_reducible repeat (first | apply Kd.R_alloc | apply Kd.R_drewN | apply Kd.R_drew)); exact Kd.R_mono (Kd.R_far (p := ⟨g01, 2, none⟩) (Kd.R_far (p := ⟨g01, 1, none⟩) (Kd.R_far (p := ⟨g01, 0, none⟩) (Kd.R_types HO_109002.out K01.out (by decide)) (fun _ hk => hk.2) (.int .i64 t102)) (fun _ hk => hk.2) (.int .i64 t103)) (fun _ hk => hk.2) (.slice Ao9 t104.length co9)) (fun _ hk => trivial), by repeat (first | (with_reducible first | exact HB.out | apply Zac | apply Zaa | apply Zab | refine Zah ?_ E01.out | refine Zah ?_ E08.out) | exact HB.out)⟩
   ·replace c16 := Bool.eq_false_iff.mpr c16
    subst c16
    have H1 : (Za6.l0 kj2 0 t104 (t104.length : Int) 0 t102 t103 t104) = some (r1, r2, r3, r4, r5) := by rw [if_neg (show ¬ (false = true) by decide)] at H; exact H
    clear H
    have H := H1
    clear H1
    have H' := Zad.mk H
    clear H
    have hnb20 := N08_01.out
    have hnc20 := N01_08.out
    have hcz21_0 : wc.cell? ⟨g08, 0, none⟩ = some (.int .i64 t102) := (Zai K08.out 0).trans rfl
    have hcz21_1 : wc.cell? ⟨g08, 1, none⟩ = some (.int .i64 t103) := (Zai K08.out 1).trans rfl
    have hcz21_2 : wc.cell? ⟨g08, 2, none⟩ = some (.slice Ao9 t104.length co9) := (Zai K08.out 2).trans rfl
    have hfz21_0 := Zae K08.out 0
    have hfz21_1 := Zae K08.out 1
    have hfz21_2 := Zae K08.out 2
    go_wp2
    go_loopg [7, 27] kj2 (fun kq v7 v27 w' => ∃ (x7_2 : Int) (x27_2 : Int), v7 = .int .i64 x7_2 ∧ v27 = .int .i64 x27_2 ∧ Zad (Za6.l0 kq x7_2 t104 (t104.length : Int) x27_2 t102 t103 t104 = some (r1, r2, r3, r4, r5)) ∧ Zad (kq ≤ kj2) ∧ Zad (Kd.R (Kd.int .u8) 5 w' w.heap.size (fun _ => True) (.slice Ao9 t104.length co9) t104) ∧ Zad (Kd.R (Kd.int .u8) 5 w' w.heap.size (fun _ => True) (.slice Ao9 t104.length co9) t104) ∧ Zad (w'.heap[g01]? = some (.cells #[.int .i64 0, .int .i64 0, (.slice none 0 0)] 52 (0, 0))) ∧ Zad (w'.heap[g08]? = some (.cells #[.int .i64 t102, .int .i64 t103, (.slice Ao9 t104.length co9)] 52 (0, 0))) ∧ Zad (Below w.heap.size w w'))
    case atStart => exact ⟨(0), (0), (by first | rfl | (simp; done) | (simp [*]; done)), (by first | rfl | (simp; done) | (simp [*]; done)), H', ⟨Nat.le_refl _⟩, ⟨by (with_reducible repeat (first | apply Kd.R_alloc | apply Kd.R_drewN | apply Kd.R_drew)); exact HO_109002.out⟩, ⟨by (with_reducible repeat (first | apply Kd.R_alloc | apply Kd.R_drewN | apply Kd.R_drew)); exact HO_109002.out⟩, ⟨by (with_reducible repeat (first | refine Zag ?_ _ | refine Zaj ?_ | refine Zaf ?_ _)); exact K01.out⟩, ⟨by (with_reducible repeat (first | refine Zag ?_ _ | refine Zaj ?_ | refine Zaf ?_ _)); exact K08.out⟩, ⟨by with_reducible repeat first | exact HB.out | apply Zac | apply Zaa | apply Zab | refine Zah ?_ E01.out | refine Zah ?_ E08.out⟩⟩
    case round =>
     clear H'
     obtain ⟨x7_2, x27_2, rfl, rfl, HA, HK2, HO_25, HO_109002, K01, K08, HB⟩ := hrel
     cases gk with
     | zero => exact absurd HA.out (by simp [Za6.l0])
     | succ k2 =>
      have H := HA.out
      clear HA
      simp only [Za6.l0] at H
      by_cases c22 : x27_2 < (t104.length : Int)
      ·rw [if_pos c22] at H
       have c22b0 : decide (x27_2 < (t104.length : Int)) = true := decide_eq_true c22
       clear c22
       by_cases c23 : 0 ≤ x27_2
       ·rw [if_pos c23] at H
        have c23b0 : decide (0 ≤ x27_2) = true := decide_eq_true c23
        clear c23
        by_cases c24 : x27_2 < (t104.length : Int)
        ·rw [if_pos c24] at H
         have c24b0 : decide (x27_2 < (t104.length : Int)) = true := decide_eq_true c24
         clear c24
         by_cases c25 : (rd t104 x27_2) = 46
         ·rw [if_pos c25] at H
          have c25b0 : ((rd t104 x27_2) == 46) = true := beq_iff_eq.mpr c25
          have c25b1 : ((rd t104 x27_2) != 46) = false := bne_eq_false_iff_eq.mpr c25
          clear c25
          have H' := Zad.mk H
          clear H
          have p112 : 0 ≤ (x27_2 : Int) := of_decide_eq_true (by first | (with_reducible assumption) | assumption)
          have q112 : x27_2 < (t104.length : Int) := of_decide_eq_true (by first | (with_reducible assumption) | assumption)
          obtain ⟨ad112, e112, hx112_0⟩ := Kd.at_int (Kd.R_reads' HO_25.out).2.2 x27_2 p112 q112
          cases e112
          replace p112 := eq_true p112
          replace q112 := eq_true q112
          go_wp2
          go_roundg k2
          case measure => have := HJ2.out; have := HK2.out; omega
          case rel => exact ⟨(wrap64 (x7_2 + 1)), (wrap64 (x27_2 + 1)), (by first | rfl | (simp; done) | (simp [*]; done)), (by first | rfl | (simp; done) | (simp [*]; done)), H', ⟨by have := HJ2.out; have := HK2.out; omega⟩, ⟨by (with_reducible repeat (first | apply Kd.R_alloc | apply Kd.R_drewN | apply Kd.R_drew)); exact HO_25.out⟩, ⟨by (with_reducible repeat (first | apply Kd.R_alloc | apply Kd.R_drewN | apply Kd.R_drew)); exact HO_109002.out⟩, ⟨by (with_reducible repeat (first | refine Zag ?_ _ | refine Zaj ?_ | refine Zaf ?_ _)); exact K01.out⟩, ⟨by (with_reducible repeat (first | refine Zag ?_ _ | refine Zaj ?_ | refine Zaf ?_ _)); exact K08.out⟩, ⟨by with_reducible repeat first | exact HB.out | apply Zac | apply Zaa | apply Zab | refine Zah ?_ E01.out | refine Zah ?_ E08.out⟩⟩
         ·rw [if_neg c25] at H
          have c25b0 : ((rd t104 x27_2) == 46) = false := beq_eq_false_iff_ne.mpr c25
          have c25b1 : ((rd t104 x27_2) != 46) = true := bne_iff_ne.mpr c25
          have H' := Zad.mk H
          clear H
          have p112 : 0 ≤ (x27_2 : Int) := of_decide_eq_true (by first | (with_reducible assumption) | assumption)
          have q112 : x27_2 < (t104.length : Int) := of_decide_eq_true (by first | (with_reducible assumption) | assumption)
          obtain ⟨ad112, e112, hx112_0⟩ := Kd.at_int (Kd.R_reads' HO_25.out).2.2 x27_2 p112 q112
          cases e112
          replace p112 := eq_true p112
          replace q112 := eq_true q112
          go_wp2
          go_roundg k2
          case measure => have := HJ2.out; have := HK2.out; omega
          case rel => exact ⟨(x7_2), (wrap64 (x27_2 + 1)), (by first | rfl | (simp; done) | (simp [*]; done)), (by first | rfl | (simp; done) | (simp [*]; done)), H', ⟨by have := HJ2.out; have := HK2.out; omega⟩, ⟨by (with_reducible repeat (first | apply Kd.R_alloc | apply Kd.R_drewN | apply Kd.R_drew)); exact HO_25.out⟩, ⟨by (with_reducible repeat (first | apply Kd.R_alloc | apply Kd.R_drewN | apply Kd.R_drew)); exact HO_109002.out⟩, ⟨by (with_reducible repeat (first | refine Zag ?_ _ | refine Zaj ?_ | refine Zaf ?_ _)); exact K01.out⟩, ⟨by (with_reducible repeat (first | refine Zag ?_ _ | refine Zaj ?_ | refine Zaf ?_ _)); exact K08.out⟩, ⟨by with_reducible repeat first | exact HB.out | apply Zac | apply Zaa | apply Zab | refine Zah ?_ E01.out | refine Zah ?_ E08.out⟩⟩
        ·rw [if_neg c24] at H
         exact absurd H (by simp)
       ·rw [if_neg c23] at H
        exact absurd H (by simp)
      ·rw [if_neg c22] at H
       have c22b0 : decide (x27_2 < (t104.length : Int)) = false := decide_eq_false c22
       clear c22
       simp only [Option.some.injEq, Prod.mk.injEq] at H
       obtain ⟨rfl, rfl, rfl, rfl, rfl⟩ := H
       have hnb26 := N08_01.out
       have hnc26 := N01_08.out
       have hcz27_0 : wr.cell? ⟨g08, 0, none⟩ = some (.int .i64 t102) := (Zai K08.out 0).trans rfl
       have hcz27_1 : wr.cell? ⟨g08, 1, none⟩ = some (.int .i64 t103) := (Zai K08.out 1).trans rfl
       have hcz27_2 : wr.cell? ⟨g08, 2, none⟩ = some (.slice Ao9 t104.length co9) := (Zai K08.out 2).trans rfl
       have hfz27_0 := Zae K08.out 0
       have hfz27_1 := Zae K08.out 1
       have hfz27_2 := Zae K08.out 2
       have hcz28_0 : wr.cell? ⟨g01, 0, none⟩ = some (.int .i64 0) := (Zai K01.out 0).trans rfl
       have hcz28_1 : wr.cell? ⟨g01, 1, none⟩ = some (.int .i64 0) := (Zai K01.out 1).trans rfl
       have hcz28_2 : wr.cell? ⟨g01, 2, none⟩ = some (.slice none 0 0) := (Zai K01.out 2).trans rfl
       have hfz28_0 := Zae K01.out 0
       have hfz28_1 := Zae K01.out 1
       have hfz28_2 := Zae K01.out 2
       go_wp2
       refine bodyPost_ret (Zd7 rfl _ _ g01 52 #[.int .i64 t102, .int .i64 t103, .slice Ao9 t104.length co9] (0, 0) _ rfl (by (with_reducible repeat (first | refine Zag ?_ _ | refine Zaj ?_ | refine Zaf ?_ _)); refine Za1 (cs := #[.int .i64 t102, .int .i64 t103, .slice none 0 0]) ?_ 2 _ rfl; (with_reducible repeat (first | refine Zag ?_ _ | refine Zaj ?_ | refine Zaf ?_ _)); refine Za1 (cs := #[.int .i64 t102, .int .i64 0, .slice none 0 0]) ?_ 1 _ rfl; (with_reducible repeat (first | refine Zag ?_ _ | refine Zaj ?_ | refine Zaf ?_ _)); refine Za1 (cs := #[.int .i64 0, .int .i64 0, .slice none 0 0]) ?_ 0 _ rfl; (with_reducible repeat (first | refine Zag ?_ _ | refine Zaj ?_ | refine Zaf ?_ _)); exact K01.out) Tryz.underlying52 rfl (by kernel_rfl)) rfl ?_
       exact ⟨_, by first | rfl | (simp [Zao, Zan] <;> rfl) | (simp [*, Zao, Zan] <;> rfl), by (with_reducible repeat (first | apply Kd.R_alloc | apply Kd.R_drewN | apply Kd.R_drew)); exact Kd.R_mono (Kd.R_far (p := ⟨g01, 2, none⟩) (Kd.R_far (p := ⟨g01, 1, none⟩) (Kd.R_far (p := ⟨g01, 0, none⟩) (Kd.R_types HO_109002.out K01.out (by decide)) (fun _ hk => hk.2) (.int .i64 t102)) (fun _ hk => hk.2) (.int .i64 t103)) (fun _ hk => hk.2) (.slice Ao9 t104.length co9)) (fun _ hk => trivial), by repeat (first | (with_reducible first | exact HB.out | apply Zac | apply Zaa | apply Zab | refine Zah ?_ E01.out | refine Zah ?_ E08.out) | exact HB.out)⟩
def Zc5.f  : Option (ByteArray) := some (⟨#[117, 114, 100, 108]⟩ : ByteArray)
set_option maxHeartbeats 8000000 in
set_option maxRecDepth 100000 in
theorem Zc5.calls  (r : ByteArray) (w : World) (h : Zc5.f  = some r) :
  Calls Tryz.prog 123 #[] w fun e w' => e = .returned (.string r) ∧ Za8 w w' := by
 have H : (some (⟨#[117, 114, 100, 108]⟩ : ByteArray)) = some r := h
 clear h
 obtain rfl := Option.some.inj H
 go_enter Tryz.func123, Tryz.ntmps123
 go_wp2
 go_ret
 exact ⟨by first | rfl | (simp; done) | (simp [*]; done), by repeat (first | exact Za8.refl _ | apply Za8.step)⟩
def Zbs.l0 : Nat → ByteArray → Int → Option (Int)
 | 0, _, _ => none
 | k + 1, x0, x3 => if x3 < 4 then ((Zc5.f).bind fun t101 => (if 0 ≤ x3 then (if x3 ≤ (wrap64 (x3 + 1)) then (if (wrap64 (x3 + 1)) ≤ (t101.size : Int) then (if x0.toList = (t101.extract (x3 : Int).toNat ((wrap64 (x3 + 1)) : Int).toNat).toList then (some x3) else (Zbs.l0 k x0 (wrap64 (x3 + 1)))) else (none)) else (none)) else (none))) else (some (-1))
def Zbs.f (k : Nat) (a0 : ByteArray) : Option (Int) := Zbs.l0 k a0 0
set_option maxHeartbeats 8000000 in
set_option maxRecDepth 100000 in
theorem Zbs.calls (k : Nat) (a0 : ByteArray) (r : Int) (w : World) (h : Zbs.f k a0 = some r) :
  Calls Tryz.prog 78 #[.string a0] w fun e w' => e = .returned (.int .i64 r) ∧ Za8 w w' := by
 have H : (Zbs.l0 k a0 0) = some r := h
 clear h
 have H' := Zad.mk H
 clear H
 go_enter Tryz.func78, Tryz.ntmps78
 go_wp2
 go_loopg [3] k (fun kq v3 w' => ∃ (x3_1 : Int), v3 = .int .i64 x3_1 ∧ Zad (Zbs.l0 kq a0 x3_1 = some r) ∧ Zad (kq ≤ k) ∧ Za8 w w')
 case atStart => exact ⟨(0), (by first | rfl | (simp; done) | (simp [*]; done)), H', ⟨Nat.le_refl _⟩, by repeat (first | exact Za8.refl _ | apply Za8.step)⟩
 case round =>
  clear H'
  obtain ⟨x3_1, rfl, HA, HK1, ⟨m1, rfl⟩⟩ := hrel
  cases gk with
  | zero => exact absurd HA.out (by simp [Zbs.l0])
  | succ k1 =>
   have H := HA.out
   clear HA
   simp only [Zbs.l0] at H
   by_cases c2 : x3_1 < 4
   ·rw [if_pos c2] at H
    have c2b0 : decide (x3_1 < 4) = true := decide_eq_true c2
    clear c2
    replace H := Option.bind_eq_some_iff.mp H
    obtain ⟨t101, A30, H⟩ := H
    replace H : (if 0 ≤ x3_1 then (if x3_1 ≤ (wrap64 (x3_1 + 1)) then (if (wrap64 (x3_1 + 1)) ≤ (t101.size : Int) then (if a0.toList = (t101.extract (x3_1 : Int).toNat ((wrap64 (x3_1 + 1)) : Int).toNat).toList then (some x3_1) else (Zbs.l0 k1 a0 (wrap64 (x3_1 + 1)))) else (none)) else (none)) else (none)) = some r := H
    have A3 := Zad.mk A30
    clear A30
    by_cases c4 : 0 ≤ x3_1
    ·rw [if_pos c4] at H
     have c4b0 := eq_true c4
     have c4b1 : decide (0 ≤ x3_1) = true := decide_eq_true c4
     clear c4
     by_cases c5 : x3_1 ≤ (wrap64 (x3_1 + 1))
     ·rw [if_pos c5] at H
      have c5b0 := eq_true c5
      have c5b1 : decide (x3_1 ≤ (wrap64 (x3_1 + 1))) = true := decide_eq_true c5
      by_cases c6 : (wrap64 (x3_1 + 1)) ≤ (t101.size : Int)
      ·rw [if_pos c6] at H
       have c6b0 := eq_true c6
       have c6b1 : decide ((wrap64 (x3_1 + 1)) ≤ (t101.size : Int)) = true := decide_eq_true c6
       by_cases c7 : a0.toList = (t101.extract (x3_1 : Int).toNat ((wrap64 (x3_1 + 1)) : Int).toNat).toList
       ·rw [if_pos c7] at H
        have c7b0 : (a0.toList == (t101.extract (x3_1 : Int).toNat ((wrap64 (x3_1 + 1)) : Int).toNat).toList) = true := beq_iff_eq.mpr c7
        have c7b1 : (a0.toList != (t101.extract (x3_1 : Int).toNat ((wrap64 (x3_1 + 1)) : Int).toNat).toList) = false := bne_eq_false_iff_eq.mpr c7
        clear c7
        obtain rfl := Option.some.inj H
        go_wp2_with (first | ((with_reducible refine Zau (f := 123) rfl ?_); refine Zbr (some 9) rfl rfl Tryz.func123 (by kernel_rfl) rfl #[] rfl (by (try simp only [List.map_toArray, List.map_cons, List.map_nil]); first | done | rfl | (simp only [List.length_drop, List.length_take]; rfl)) ?_; (with_reducible refine (Zc5.calls  t101 _ A3.out).mono ?_); rintro e w' ⟨rfl, ⟨nd, rfl⟩⟩; refine ⟨_, rfl, ?_⟩))
        go_ret
        exact ⟨by first | rfl | (simp; done) | (simp [*]; done), by repeat (first | exact Za8.refl _ | apply Za8.step)⟩
       ·rw [if_neg c7] at H
        have c7b0 : (a0.toList == (t101.extract (x3_1 : Int).toNat ((wrap64 (x3_1 + 1)) : Int).toNat).toList) = false := beq_eq_false_iff_ne.mpr c7
        have c7b1 : (a0.toList != (t101.extract (x3_1 : Int).toNat ((wrap64 (x3_1 + 1)) : Int).toNat).toList) = true := bne_iff_ne.mpr c7
        have H' := Zad.mk H
        clear H
        go_wp2_with (first | ((with_reducible refine Zau (f := 123) rfl ?_); refine Zbr (some 9) rfl rfl Tryz.func123 (by kernel_rfl) rfl #[] rfl (by (try simp only [List.map_toArray, List.map_cons, List.map_nil]); first | done | rfl | (simp only [List.length_drop, List.length_take]; rfl)) ?_; (with_reducible refine (Zc5.calls  t101 _ A3.out).mono ?_); rintro e w' ⟨rfl, ⟨nd, rfl⟩⟩; refine ⟨_, rfl, ?_⟩))
        go_roundg k1
        case measure => have := HK1.out; omega
        case rel => exact ⟨(wrap64 (x3_1 + 1)), (by first | rfl | (simp; done) | (simp [*]; done)), H', ⟨by have := HK1.out; omega⟩, by repeat (first | exact Za8.refl _ | apply Za8.step)⟩
      ·rw [if_neg c6] at H
       exact absurd H (by simp)
     ·rw [if_neg c5] at H
      exact absurd H (by simp)
    ·rw [if_neg c4] at H
     exact absurd H (by simp)
   ·rw [if_neg c2] at H
    have c2b0 : decide (x3_1 < 4) = false := decide_eq_false c2
    clear c2
    obtain rfl := Option.some.inj H
    go_wp2
    go_ret
    exact ⟨by first | rfl | (simp; done) | (simp [*]; done), by repeat (first | exact Za8.refl _ | apply Za8.step)⟩
mutual
def Zbh.l0 : Nat → ByteArray → Int → Option (Bool)
 | 0, _, _ => none
 | k + 1, x0, x3 => if x3 < (x0.size : Int) then (if 0 ≤ x3 then (if x3 ≤ (wrap64 (x3 + 1)) then (if (wrap64 (x3 + 1)) ≤ (x0.size : Int) then ((Zbs.f k (x0.extract (x3 : Int).toNat ((wrap64 (x3 + 1)) : Int).toNat)).bind fun t101 => (if t101 < 0 then (some false) else (Zbh.l1 k x0 x3 0))) else (none)) else (none)) else (none)) else (some true)
def Zbh.l1 : Nat → ByteArray → Int → Int → Option (Bool)
 | 0, _, _, _ => none
 | k + 1, x0, x3, x4 => if x4 < x3 then (if 0 ≤ x3 then (if x3 < (x0.size : Int) then (if 0 ≤ x4 then (if x4 < (x0.size : Int) then (if (bt x0 x3) = (bt x0 x4) then (some false) else (Zbh.l1 k x0 x3 (wrap64 (x4 + 1)))) else (none)) else (none)) else (none)) else (none)) else (Zbh.l0 k x0 (wrap64 (x3 + 1)))
end
def Zbh.f (k : Nat) (a0 : ByteArray) : Option (Bool) := Zbh.l0 k a0 0
set_option maxHeartbeats 8000000 in
set_option maxRecDepth 100000 in
theorem Zbh.calls (k : Nat) (a0 : ByteArray) (r : Bool) (w : World) (h : Zbh.f k a0 = some r) :
  Calls Tryz.prog 75 #[.string a0] w fun e w' => e = .returned (.bool r) ∧ Za8 w w' := by
 have H : (Zbh.l0 k a0 0) = some r := h
 clear h
 have H' := Zad.mk H
 clear H
 go_enter Tryz.func75, Tryz.ntmps75
 go_wp2
 repeat (go_quiet (fail); try go_wp2)
 go_loopg [3] k (fun kq v3 w' => ∃ (x3_1 : Int), v3 = .int .i64 x3_1 ∧ Zad (Zbh.l0 kq a0 x3_1 = some r) ∧ Zad (kq ≤ k) ∧ Za8 w w')
 case atStart => exact ⟨(0), (by first | rfl | (simp; done) | (simp [*]; done)), H', ⟨Nat.le_refl _⟩, by repeat (first | exact Za8.refl _ | apply Za8.step)⟩
 case round =>
  clear H'
  obtain ⟨x3_1, rfl, HA, HK1, ⟨m1, rfl⟩⟩ := hrel
  cases gk with
  | zero => exact absurd HA.out (by simp [Zbh.l0])
  | succ k1 =>
   have H := HA.out
   clear HA
   simp only [Zbh.l0] at H
   by_cases c2 : x3_1 < (a0.size : Int)
   ·rw [if_pos c2] at H
    have c2b0 : decide (x3_1 < (a0.size : Int)) = true := decide_eq_true c2
    clear c2
    by_cases c3 : 0 ≤ x3_1
    ·rw [if_pos c3] at H
     have c3b0 := eq_true c3
     have c3b1 : decide (0 ≤ x3_1) = true := decide_eq_true c3
     clear c3
     by_cases c4 : x3_1 ≤ (wrap64 (x3_1 + 1))
     ·rw [if_pos c4] at H
      have c4b0 := eq_true c4
      have c4b1 : decide (x3_1 ≤ (wrap64 (x3_1 + 1))) = true := decide_eq_true c4
      by_cases c5 : (wrap64 (x3_1 + 1)) ≤ (a0.size : Int)
      ·rw [if_pos c5] at H
       have c5b0 := eq_true c5
       have c5b1 : decide ((wrap64 (x3_1 + 1)) ≤ (a0.size : Int)) = true := decide_eq_true c5
       replace H := Option.bind_eq_some_iff.mp H
       obtain ⟨t101, A60, H⟩ := H
       replace H : (if t101 < 0 then (some false) else (Zbh.l1 k1 a0 x3_1 0)) = some r := H
       have A6 := Zad.mk A60
       clear A60
       by_cases c7 : t101 < 0
       ·rw [if_pos c7] at H
        have c7b0 : decide (t101 < 0) = true := decide_eq_true c7
        clear c7
        obtain rfl := Option.some.inj H
        go_wp2_with (first | (go_at_call 78; (with_reducible refine (Zbs.calls k1 (a0.extract (x3_1 : Int).toNat ((wrap64 (x3_1 + 1)) : Int).toNat) t101 _ A6.out).mono ?_); rintro e w' ⟨rfl, ⟨nd, rfl⟩⟩; (try first | exact ⟨rfl, _, World.drewN_drewN _ _ _⟩ | exact ⟨rfl, _, Eq.trans (World.drewN_drewN _ _ _) (congrArg (World.drewN _) (Nat.add_assoc _ _ _))⟩)))
        repeat (go_quiet (first | (go_at_call 78; (with_reducible refine (Zbs.calls k1 (a0.extract (x3_1 : Int).toNat ((wrap64 (x3_1 + 1)) : Int).toNat) t101 _ A6.out).mono ?_); rintro e w' ⟨rfl, ⟨nd, rfl⟩⟩; (try first | exact ⟨rfl, _, World.drewN_drewN _ _ _⟩ | exact ⟨rfl, _, Eq.trans (World.drewN_drewN _ _ _) (congrArg (World.drewN _) (Nat.add_assoc _ _ _))⟩))); try go_wp2_with (first | (go_at_call 78; (with_reducible refine (Zbs.calls k1 (a0.extract (x3_1 : Int).toNat ((wrap64 (x3_1 + 1)) : Int).toNat) t101 _ A6.out).mono ?_); rintro e w' ⟨rfl, ⟨nd, rfl⟩⟩; (try first | exact ⟨rfl, _, World.drewN_drewN _ _ _⟩ | exact ⟨rfl, _, Eq.trans (World.drewN_drewN _ _ _) (congrArg (World.drewN _) (Nat.add_assoc _ _ _))⟩))))
        go_ret
        exact ⟨by first | rfl | (simp; done) | (simp [*]; done), by repeat (first | exact Za8.refl _ | apply Za8.step)⟩
       ·rw [if_neg c7] at H
        have c7b0 : decide (t101 < 0) = false := decide_eq_false c7
        clear c7
        have H' := Zad.mk H
        clear H
        go_wp2_with (first | (go_at_call 78; (with_reducible refine (Zbs.calls k1 (a0.extract (x3_1 : Int).toNat ((wrap64 (x3_1 + 1)) : Int).toNat) t101 _ A6.out).mono ?_); rintro e w' ⟨rfl, ⟨nd, rfl⟩⟩; (try first | exact ⟨rfl, _, World.drewN_drewN _ _ _⟩ | exact ⟨rfl, _, Eq.trans (World.drewN_drewN _ _ _) (congrArg (World.drewN _) (Nat.add_assoc _ _ _))⟩)))
        repeat (go_quiet (first | (go_at_call 78; (with_reducible refine (Zbs.calls k1 (a0.extract (x3_1 : Int).toNat ((wrap64 (x3_1 + 1)) : Int).toNat) t101 _ A6.out).mono ?_); rintro e w' ⟨rfl, ⟨nd, rfl⟩⟩; (try first | exact ⟨rfl, _, World.drewN_drewN _ _ _⟩ | exact ⟨rfl, _, Eq.trans (World.drewN_drewN _ _ _) (congrArg (World.drewN _) (Nat.add_assoc _ _ _))⟩))); try go_wp2_with (first | (go_at_call 78; (with_reducible refine (Zbs.calls k1 (a0.extract (x3_1 : Int).toNat ((wrap64 (x3_1 + 1)) : Int).toNat) t101 _ A6.out).mono ?_); rintro e w' ⟨rfl, ⟨nd, rfl⟩⟩; (try first | exact ⟨rfl, _, World.drewN_drewN _ _ _⟩ | exact ⟨rfl, _, Eq.trans (World.drewN_drewN _ _ _) (congrArg (World.drewN _) (Nat.add_assoc _ _ _))⟩))))
        go_loopg [4] k1 (fun kq v4 w' => ∃ (x4_2 : Int), v4 = .int .i64 x4_2 ∧ Zad (Zbh.l1 kq a0 x3_1 x4_2 = some r) ∧ Zad (kq ≤ k1) ∧ Za8 w w')
        case atStart => exact ⟨(0), (by first | rfl | (simp; done) | (simp [*]; done)), H', ⟨Nat.le_refl _⟩, by repeat (first | exact Za8.refl _ | apply Za8.step)⟩
        case round =>
         clear H'
         obtain ⟨x4_2, rfl, HA, HK2, ⟨m2, rfl⟩⟩ := hrel
         cases gk with
         | zero => exact absurd HA.out (by simp [Zbh.l1])
         | succ k2 =>
          have H := HA.out
          clear HA
          simp only [Zbh.l1] at H
          by_cases c8 : x4_2 < x3_1
          ·rw [if_pos c8] at H
           have c8b0 : decide (x4_2 < x3_1) = true := decide_eq_true c8
           clear c8
           by_cases c9 : 0 ≤ x3_1
           ·rw [if_pos c9] at H
            have c9b0 : decide (0 ≤ x3_1) = true := decide_eq_true c9
            clear c9
            by_cases c10 : x3_1 < (a0.size : Int)
            ·rw [if_pos c10] at H
             have c10b0 : decide (x3_1 < (a0.size : Int)) = true := decide_eq_true c10
             clear c10
             by_cases c12 : 0 ≤ x4_2
             ·rw [if_pos c12] at H
              have c12b0 : decide (0 ≤ x4_2) = true := decide_eq_true c12
              clear c12
              by_cases c13 : x4_2 < (a0.size : Int)
              ·rw [if_pos c13] at H
               have c13b0 : decide (x4_2 < (a0.size : Int)) = true := decide_eq_true c13
               clear c13
               by_cases c15 : (bt a0 x3_1) = (bt a0 x4_2)
               ·rw [if_pos c15] at H
                have c15b0 : ((bt a0 x3_1) == (bt a0 x4_2)) = true := beq_iff_eq.mpr c15
                have c15b1 : ((bt a0 x3_1) != (bt a0 x4_2)) = false := bne_eq_false_iff_eq.mpr c15
                clear c15
                obtain rfl := Option.some.inj H
                have p11 : 0 ≤ (x3_1 : Int) := of_decide_eq_true (by first | (with_reducible assumption) | assumption)
                have q11 : x3_1 < (a0.size : Int) := of_decide_eq_true (by first | (with_reducible assumption) | assumption)
                have hx11 := bt_at a0 x3_1
                replace p11 := eq_true p11
                replace q11 := eq_true q11
                have p14 : 0 ≤ (x4_2 : Int) := of_decide_eq_true (by first | (with_reducible assumption) | assumption)
                have q14 : x4_2 < (a0.size : Int) := of_decide_eq_true (by first | (with_reducible assumption) | assumption)
                have hx14 := bt_at a0 x4_2
                replace p14 := eq_true p14
                replace q14 := eq_true q14
                go_wp2
                repeat (go_quiet (fail); try go_wp2)
                go_ret
                exact ⟨by first | rfl | (simp; done) | (simp [*]; done), by repeat (first | exact Za8.refl _ | apply Za8.step)⟩
               ·rw [if_neg c15] at H
                have c15b0 : ((bt a0 x3_1) == (bt a0 x4_2)) = false := beq_eq_false_iff_ne.mpr c15
                have c15b1 : ((bt a0 x3_1) != (bt a0 x4_2)) = true := bne_iff_ne.mpr c15
                have H' := Zad.mk H
                clear H
                have p11 : 0 ≤ (x3_1 : Int) := of_decide_eq_true (by first | (with_reducible assumption) | assumption)
                have q11 : x3_1 < (a0.size : Int) := of_decide_eq_true (by first | (with_reducible assumption) | assumption)
                have hx11 := bt_at a0 x3_1
                replace p11 := eq_true p11
                replace q11 := eq_true q11
                have p14 : 0 ≤ (x4_2 : Int) := of_decide_eq_true (by first | (with_reducible assumption) | assumption)
                have q14 : x4_2 < (a0.size : Int) := of_decide_eq_true (by first | (with_reducible assumption) | assumption)
                have hx14 := bt_at a0 x4_2
                replace p14 := eq_true p14
                replace q14 := eq_true q14
                go_wp2
                repeat (go_quiet (fail); try go_wp2)
                go_roundg k2
                case measure => have := HK1.out; have := HK2.out; omega
                case rel => exact ⟨(wrap64 (x4_2 + 1)), (by first | rfl | (simp; done) | (simp [*]; done)), H', ⟨by have := HK1.out; have := HK2.out; omega⟩, by repeat (first | exact Za8.refl _ | apply Za8.step)⟩
              ·rw [if_neg c13] at H
               exact absurd H (by simp)
             ·rw [if_neg c12] at H
              exact absurd H (by simp)
            ·rw [if_neg c10] at H
             exact absurd H (by simp)
           ·rw [if_neg c9] at H
            exact absurd H (by simp)
          ·rw [if_neg c8] at H
           have c8b0 : decide (x4_2 < x3_1) = false := decide_eq_false c8
           clear c8
           have H' := Zad.mk H
           clear H
           go_wp2
           repeat (go_quiet (fail); try go_wp2)
           go_roundg k2
           case measure => have := HK1.out; have := HK2.out; omega
           case rel => exact ⟨(wrap64 (x3_1 + 1)), (by first | rfl | (simp; done) | (simp [*]; done)), H', ⟨by have := HK1.out; have := HK2.out; omega⟩, by repeat (first | exact Za8.refl _ | apply Za8.step)⟩
      ·rw [if_neg c5] at H
       exact absurd H (by simp)
     ·rw [if_neg c4] at H
      exact absurd H (by simp)
    ·rw [if_neg c3] at H
     exact absurd H (by simp)
   ·rw [if_neg c2] at H
    have c2b0 : decide (x3_1 < (a0.size : Int)) = false := decide_eq_false c2
    clear c2
    obtain rfl := Option.some.inj H
    go_wp2
    repeat (go_quiet (fail); try go_wp2)
    go_ret
    exact ⟨by first | rfl | (simp; done) | (simp [*]; done), by repeat (first | exact Za8.refl _ | apply Za8.step)⟩
def Zbt.f (k : Nat) (a0 : ByteArray) (a1 : ByteArray) : Option (Int × Int × List Int × Int × Bool) := (Za6.f k a0).bind fun bt102 => (if bt102.2.2.2.2 = true then (if bt102.2.2.2.1 ≤ 16 then ((Zbh.f k a1).bind fun t110 => (some (bt102.1, bt102.2.1, bt102.2.2.1, bt102.2.2.2.1, t110))) else (some (bt102.1, bt102.2.1, bt102.2.2.1, bt102.2.2.2.1, false))) else (some (bt102.1, bt102.2.1, bt102.2.2.1, bt102.2.2.2.1, false)))
def Zbt.T2 : Bool × List (List Nat × List Nat) := (true, [([], []), ([], []), ([], []), ([2], [2]), ([3], [3]), ([4, 3], [3, 4]), ([3, 5], [3, 5]), ([6, 3], [6]), ([7], [7]), ([8, 7, 7], [7, 8]), ([7, 9], [7, 9]), ([0, 9, 0], [0]), ([1, 11, 0, 1, 11], [1]), ([10, 12, 0, 1, 2, 3, 4, 5, 6, 7, 8, 9, 10, 11, 12], [10])])
def Zbt.B2 : List Nat := [0, 0, 0, 4, 12, 28, 60, 124, 252, 508, 1020, 1021, 3071, 8191]
theorem Zbt.tab2 : rtab .any (opsOf Tryz.f39 2) = Zbt.T2 := by kernel_rfl
theorem Zbt.bits2 : Zec Zbt.T2.2 Zbt.B2 = true := by kernel_rfl
set_option maxHeartbeats 8000000 in
set_option maxRecDepth 100000 in
theorem Zbt.calls (k : Nat) (a0 : ByteArray) (a1 : ByteArray) (r1 : Int) (r2 : Int) (r3 : List Int) (r4 : Int) (r5 : Bool) (w : World) (h : Zbt.f k a0 a1 = some (r1, r2, r3, r4, r5)) :
  Calls Tryz.prog 39 #[.string a0, .string a1] w fun e w' => ∃ v2_ : Value, e = .returned (.tuple #[.agg #[.int .i64 r1, .int .i64 r2, v2_], .int .i64 r4, .bool r5]) ∧ Kd.R (Kd.int .u8) 5 w' w.heap.size (fun _ => True) v2_ r3 ∧ Below w.heap.size w w' := by
 have hu52 := Tryz.underlying52
 have HB := Zad.mk (Below.refl w.heap.size w)
 have H : ((Za6.f k a0).bind fun bt102 => (if bt102.2.2.2.2 = true then (if bt102.2.2.2.1 ≤ 16 then ((Zbh.f k a1).bind fun t110 => (some (bt102.1, bt102.2.1, bt102.2.2.1, bt102.2.2.2.1, t110))) else (some (bt102.1, bt102.2.1, bt102.2.2.1, bt102.2.2.2.1, false))) else (some (bt102.1, bt102.2.1, bt102.2.2.1, bt102.2.2.2.1, false)))) = some (r1, r2, r3, r4, r5) := h
 clear h
 replace H := Option.bind_eq_some_iff.mp H
 obtain ⟨⟨t102, t103, t104, t107, t108⟩, A30, H⟩ := H
 replace H : (if t108 = true then (if t107 ≤ 16 then ((Zbh.f k a1).bind fun t110 => (some (t102, t103, t104, t107, t110))) else (some (t102, t103, t104, t107, false))) else (some (t102, t103, t104, t107, false))) = some (r1, r2, r3, r4, r5) := H
 have A3 := Zad.mk A30
 clear A30
 by_cases c4 : t108 = true
 ·subst c4
  have H1 : (if t107 ≤ 16 then ((Zbh.f k a1).bind fun t110 => (some (t102, t103, t104, t107, t110))) else (some (t102, t103, t104, t107, false))) = some (r1, r2, r3, r4, r5) := by rw [if_pos rfl] at H; exact H
  clear H
  have H := H1
  clear H1
  by_cases c5 : t107 ≤ 16
  ·rw [if_pos c5] at H
   have c5b0 : decide (t107 ≤ 16) = true := decide_eq_true c5
   clear c5
   replace H := Option.bind_eq_some_iff.mp H
   obtain ⟨t110, A60, H⟩ := H
   replace H : (some (t102, t103, t104, t107, t110)) = some (r1, r2, r3, r4, r5) := H
   have A6 := Zad.mk A60
   clear A60
   simp only [Option.some.injEq, Prod.mk.injEq] at H
   obtain ⟨rfl, rfl, rfl, rfl, rfl⟩ := H
   go_enter Tryz.func39, Tryz.ntmps39
   try go_wp2_with (first | ((with_reducible refine Zay (N := 4) rfl ?_); refine Zaz ?hg (N := 4) ?hd (cs := #[.int .i64 0, .int .i64 0, .slice none 0 0]) (t := 52) ?hr ?_; (case hd => rfl); (case hg => rfl); (case hr => first | (go_simp; done) | (go_simp; rfl)); intro g01 hg w7 hbox hb; have n0_ := Zad.mk (Zal (by with_reducible repeat first | exact HB.out | apply Zac | apply Zaa | apply Zab) hb); have n1_ := Zad.mk (hbox); have n2_ := Zad.mk ((by rw [hg]; exact (Zak (by with_reducible repeat first | exact HB.out | apply Zac | apply Zaa | apply Zab)) : w.heap.size ≤ g01)); have n3_ := n2_; clear HB; have HB := n0_; have K01 := n1_; have W01 := n2_; have E01 := n3_; clear hb hbox hg) | ((with_reducible refine Zau (f := 74) rfl ?_); refine Zbr (some 12) rfl rfl Tryz.func74 (by kernel_rfl) rfl #[.string a0] rfl (by (try simp only [List.map_toArray, List.map_cons, List.map_nil]); first | done | rfl | (simp only [List.length_drop, List.length_take]; rfl)) ?_; (with_reducible refine (Za6.calls k a0 t102 t103 t104 t107 true _ A3.out).mono ?_); rintro e w8 ⟨v105, rfl, ho0, hb⟩; refine ⟨_, rfl, ?_⟩; have n0_ := Zad.mk (Kd.R_lower ho0 (Zak (by with_reducible repeat first | exact HB.out | apply Zac | apply Zaa | apply Zab | refine Zah ?_ E01.out))); have n1_ := Zad.mk (Zav (g := g01) (o := .cells #[.int .i64 0, .int .i64 0, .slice none 0 0] 52 (0, 0)) (by (with_reducible repeat (first | refine Zag ?_ _ | refine Zaj ?_ | refine Zaf ?_ _)); exact K01.out) hb); have n2_ := Zad.mk (Zal (by with_reducible repeat first | exact HB.out | apply Zac | apply Zaa | apply Zab | refine Zah ?_ E01.out) hb); clear K01; clear HB; have HO106 := n0_; have K01 := n1_; have HB := n2_) | ((with_reducible refine Zay (N := 7) rfl ?_); refine Zaz ?hg (N := 7) ?hd (cs := #[.int .i64 0, .int .i64 0, .slice none 0 0]) (t := 52) ?hr ?_; (case hd => rfl); (case hg => rfl); (case hr => first | (go_simp; done) | (go_simp; rfl)); intro g09 hg w9 hbox hb; have n0_ := Zad.mk (Kd.R_below (by (with_reducible repeat (first | apply Kd.R_alloc | apply Kd.R_drewN | apply Kd.R_drew)); exact HO106.out) hb); have n1_ := Zad.mk (Zav (g := g01) (o := .cells #[.int .i64 0, .int .i64 0, .slice none 0 0] 52 (0, 0)) (by (with_reducible repeat (first | refine Zag ?_ _ | refine Zaj ?_ | refine Zaf ?_ _)); exact K01.out) hb); have n2_ := Zad.mk (Zal (by with_reducible repeat first | exact HB.out | apply Zac | apply Zaa | apply Zab | refine Zah ?_ E01.out) hb); have n3_ := Zad.mk (hbox); have n4_ := Zad.mk ((by rw [hg]; exact (Zak (by with_reducible repeat first | exact HB.out | apply Zac | apply Zaa | apply Zab | refine Zah ?_ E01.out)) : w.heap.size ≤ g09)); have n5_ := Zad.mk ((by rw [hg]; exact (Zak (by with_reducible repeat first | exact HB.out | apply Zac | apply Zaa | apply Zab | refine Zah ?_ E01.out)) : w.heap.size ≤ g09)); have n6_ := Zad.mk ((by rw [hg]; exact Nat.ne_of_lt (Zct (g := g01) (o := .cells #[.int .i64 0, .int .i64 0, .slice none 0 0] 52 (0, 0)) (by (with_reducible repeat (first | refine Zag ?_ _ | refine Zaj ?_ | refine Zaf ?_ _)); exact K01.out)) : g01 ≠ g09)); have n7_ := Zad.mk ((by rw [hg]; exact Nat.ne_of_gt (Zct (g := g01) (o := .cells #[.int .i64 0, .int .i64 0, .slice none 0 0] 52 (0, 0)) (by (with_reducible repeat (first | refine Zag ?_ _ | refine Zaj ?_ | refine Zaf ?_ _)); exact K01.out)) : g09 ≠ g01)); clear HO106; clear K01; clear HB; have HO106 := n0_; have K01 := n1_; have HB := n2_; have K09 := n3_; have W09 := n4_; have E09 := n5_; have N01_09 := n6_; have N09_01 := n7_; clear hb hbox hg; have hnb10 := N09_01.out; have hnc10 := N01_09.out; have hcz11_0 : w9.cell? ⟨g09, 0, none⟩ = some (.int .i64 0) := (Zai K09.out 0).trans rfl; have hcz11_1 : w9.cell? ⟨g09, 1, none⟩ = some (.int .i64 0) := (Zai K09.out 1).trans rfl; have hcz11_2 : w9.cell? ⟨g09, 2, none⟩ = some (.slice none 0 0) := (Zai K09.out 2).trans rfl; have hfz11_0 := Zae K09.out 0; have hfz11_1 := Zae K09.out 1; have hfz11_2 := Zae K09.out 2; obtain ⟨Ao12, co12, eo12⟩ := Kd.R_slice HO106.out; subst eo12))
   have n0_ : Zad (Kd.R (Kd.int .u8) 5 (((w9.setCell ⟨g09, 0, none⟩ (.int .i64 t102)).setCell ⟨g09, 1, none⟩ (.int .i64 t103)).setCell ⟨g09, 2, none⟩ (.slice Ao12 t104.length co12)) w.heap.size (fun _ => True) (.slice Ao12 t104.length co12) t104) := ⟨by (with_reducible repeat (first | apply Kd.R_alloc | apply Kd.R_drewN | apply Kd.R_drew)); exact Kd.R_mono (Kd.R_far (p := ⟨g09, 2, none⟩) (Kd.R_far (p := ⟨g09, 1, none⟩) (Kd.R_far (p := ⟨g09, 0, none⟩) (Kd.R_types HO106.out K09.out (by decide)) (fun _ hk => hk.2) (.int .i64 t102)) (fun _ hk => hk.2) (.int .i64 t103)) (fun _ hk => hk.2) (.slice Ao12 t104.length co12)) (fun _ hk => trivial)⟩
   have n1_ : Zad ((((w9.setCell ⟨g09, 0, none⟩ (.int .i64 t102)).setCell ⟨g09, 1, none⟩ (.int .i64 t103)).setCell ⟨g09, 2, none⟩ (.slice Ao12 t104.length co12)).heap[g01]? = some (.cells #[.int .i64 0, .int .i64 0, .slice none 0 0] 52 (0, 0))) := ⟨by (with_reducible repeat (first | refine Zag ?_ _ | refine Zaj ?_ | refine Zaf ?_ _)); refine Zb9 ?_ N01_09.out _; (with_reducible repeat (first | refine Zag ?_ _ | refine Zaj ?_ | refine Zaf ?_ _)); refine Zb9 ?_ N01_09.out _; (with_reducible repeat (first | refine Zag ?_ _ | refine Zaj ?_ | refine Zaf ?_ _)); refine Zb9 ?_ N01_09.out _; (with_reducible repeat (first | refine Zag ?_ _ | refine Zaj ?_ | refine Zaf ?_ _)); exact K01.out⟩
   have n2_ : Zad ((((w9.setCell ⟨g09, 0, none⟩ (.int .i64 t102)).setCell ⟨g09, 1, none⟩ (.int .i64 t103)).setCell ⟨g09, 2, none⟩ (.slice Ao12 t104.length co12)).heap[g09]? = some (.cells #[.int .i64 t102, .int .i64 t103, .slice Ao12 t104.length co12] 52 (0, 0))) := ⟨by (with_reducible repeat (first | refine Zag ?_ _ | refine Zaj ?_ | refine Zaf ?_ _)); refine Za1 (cs := #[.int .i64 t102, .int .i64 t103, .slice none 0 0]) ?_ 2 _ rfl; (with_reducible repeat (first | refine Zag ?_ _ | refine Zaj ?_ | refine Zaf ?_ _)); refine Za1 (cs := #[.int .i64 t102, .int .i64 0, .slice none 0 0]) ?_ 1 _ rfl; (with_reducible repeat (first | refine Zag ?_ _ | refine Zaj ?_ | refine Zaf ?_ _)); refine Za1 (cs := #[.int .i64 0, .int .i64 0, .slice none 0 0]) ?_ 0 _ rfl; (with_reducible repeat (first | refine Zag ?_ _ | refine Zaj ?_ | refine Zaf ?_ _)); exact K09.out⟩
   have n3_ : Zad (Below w.heap.size w (((w9.setCell ⟨g09, 0, none⟩ (.int .i64 t102)).setCell ⟨g09, 1, none⟩ (.int .i64 t103)).setCell ⟨g09, 2, none⟩ (.slice Ao12 t104.length co12))) := ⟨by with_reducible repeat first | exact HB.out | apply Zac | apply Zaa | apply Zab | refine Zah ?_ E01.out | refine Zah ?_ E09.out⟩
   (try clear HO106)
   (try clear K01)
   (try clear K09)
   (try clear HB)
   generalize (((w9.setCell ⟨g09, 0, none⟩ (.int .i64 t102)).setCell ⟨g09, 1, none⟩ (.int .i64 t103)).setCell ⟨g09, 2, none⟩ (.slice Ao12 t104.length co12)) = w13 at n0_ n1_ n2_ n3_ ⊢
   have HO106 := n0_
   have K01 := n1_
   have K09 := n2_
   have HB := n3_
   clear n0_ n1_ n2_ n3_
   have n0_ := Zad.mk (Kd.R_drew HO106.out)
   have n1_ := Zad.mk (Zaj K01.out)
   have n2_ := Zad.mk (Zaj K09.out)
   have n3_ := Zad.mk (Zab HB.out)
   clear HO106
   clear K01
   clear K09
   clear HB
   have HO106 := n0_
   have K01 := n1_
   have K09 := n2_
   have HB := n3_
   clear n0_ n1_ n2_ n3_
   refine Zfe (n := 14) (S := fun w' => w'.cell? ⟨g09, 0, none⟩ = some (.int .i64 t102) ∧ w'.cell? ⟨g09, 1, none⟩ = some (.int .i64 t103) ∧ w'.cell? ⟨g09, 2, none⟩ = some (.slice Ao12 t104.length co12)) (ds := []) #[false, false, false, false, false, false, false, false, false, false, false, false, false, false] (by kernel_rfl) rfl rfl ⟨(Zai K09.out 0).trans rfl, (Zai K09.out 1).trans rfl, (Zai K09.out 2).trans rfl⟩ (fun hHeld => ?_); refine Zdv Zbt.tab2 Zbt.bits2 (fun HT_ HW_ => ?_)
   generalize w13.drew = w14 at HO106 K01 K09 HB hHeld ⊢
   refine pure_ (i := 1) (N := some 17) (v := ?_) (a' := ?_) #[false, true, false, false, false, false, false, false, false, false, false, false, false, false] rfl rfl (Zb5 HT_.out (by kernel_rfl)) (fun _ _ _ h => h) (Or.inl ⟨by rfl, ?_⟩) ?_ ?_
   rotate_left
   ·intro w'
    go_simp
    with_reducible rfl
   rotate_left
   ·simp only [Act.put, List.setIfInBounds_toArray, List.set_cons_zero, List.set_cons_succ, i64_w, i32_w]
    rfl
   refine pure_ (i := 2) (N := some 18) (v := ?_) (a' := ?_) #[false, true, true, false, false, false, false, false, false, false, false, false, false, false] rfl rfl (Zb5 HT_.out (by kernel_rfl)) (fun _ _ _ h => h) (Or.inl ⟨by rfl, ?_⟩) ?_ ?_
   rotate_left
   ·intro w'
    go_simp
    with_reducible rfl
   rotate_left
   ·simp only [Act.put, List.setIfInBounds_toArray, List.set_cons_zero, List.set_cons_succ, i64_w, i32_w]
    rfl
   refine pure_ (i := 3) (N := some 19) (v := ?_) (a' := ?_) #[false, true, true, true, false, false, false, false, false, false, false, false, false, false] rfl rfl (Zb5 HT_.out (by kernel_rfl)) (fun _ _ _ h => h) (Or.inl ⟨by rfl, ?_⟩) ?_ ?_
   rotate_left
   ·intro w'
    go_simp
    with_reducible rfl
   rotate_left
   ·simp only [Act.put, List.setIfInBounds_toArray, List.set_cons_zero, List.set_cons_succ, i64_w, i32_w]
    rfl
   refine pure_ (i := 4) (N := some 20) (v := ?_) (a' := ?_) #[false, true, true, true, true, false, false, false, false, false, false, false, false, false] rfl rfl (Zb5 HT_.out (by kernel_rfl)) (fun _ _ _ h => h) (Or.inl ⟨by rfl, ?_⟩) ?_ ?_
   rotate_left
   ·intro w'
    go_simp
    with_reducible rfl
   rotate_left
   ·simp only [Act.put, List.setIfInBounds_toArray, List.set_cons_zero, List.set_cons_succ, i64_w, i32_w]
    rfl
   refine pure_ (i := 5) (N := some 21) (v := ?_) (a' := ?_) #[false, true, true, true, true, true, false, false, false, false, false, false, false, false] rfl rfl (Zb5 HT_.out (by kernel_rfl)) (fun _ _ _ h => h) (Or.inl ⟨by rfl, ?_⟩) ?_ ?_
   rotate_left
   ·intro w'
    go_simp
    with_reducible rfl
   rotate_left
   ·simp only [Act.put, List.setIfInBounds_toArray, List.set_cons_zero, List.set_cons_succ, i64_w, i32_w]
    rfl
   refine pure_ (i := 6) (N := some 22) (v := ?_) (a' := ?_) #[false, true, true, true, true, true, true, false, false, false, false, false, false, false] rfl rfl (Zb5 HT_.out (by kernel_rfl)) (fun _ _ _ h => h) (Or.inl ⟨by rfl, ?_⟩) ?_ ?_
   rotate_left
   ·intro w'
    go_simp
    with_reducible rfl
   rotate_left
   ·simp only [Act.put, List.setIfInBounds_toArray, List.set_cons_zero, List.set_cons_succ, i64_w, i32_w]
    rfl
   refine pure_ (i := 7) (N := some 23) (v := ?_) (a' := ?_) #[false, true, true, true, true, true, true, true, false, false, false, false, false, false] rfl rfl (Zb5 HT_.out (by kernel_rfl)) (fun _ _ _ h => h) (Or.inl ⟨by rfl, ?_⟩) ?_ ?_
   rotate_left
   ·intro w'
    go_simp
    with_reducible rfl
   rotate_left
   ·simp only [Act.put, List.setIfInBounds_toArray, List.set_cons_zero, List.set_cons_succ, i64_w, i32_w]
    rfl
   refine pure_ (i := 8) (N := some 24) (v := ?_) (a' := ?_) #[false, true, true, true, true, true, true, true, true, false, false, false, false, false] rfl rfl (Zb5 HT_.out (by kernel_rfl)) (fun _ _ _ h => h) (Or.inl ⟨by rfl, ?_⟩) ?_ ?_
   rotate_left
   ·intro w'
    go_simp
    with_reducible rfl
   rotate_left
   ·simp only [Act.put, List.setIfInBounds_toArray, List.set_cons_zero, List.set_cons_succ, i64_w, i32_w]
    rfl
   refine take_ (i := 0) (N := some 16) (v := ?_) (a' := ?_) #[true, true, true, true, true, true, true, true, true, false, false, false, false, false] rfl rfl (Zdb HT_.out HW_.out (by kernel_rfl)) (fun _ _ _ h => h) (Or.inl ⟨by rfl, ?_⟩) hHeld ?_ ?_
   rotate_left
   ·rintro w' ⟨s0, s1, s2⟩
    go_simp
    with_reducible rfl
   rotate_left
   ·simp only [Act.put, List.setIfInBounds_toArray, List.set_cons_zero, List.set_cons_succ, i64_w, i32_w]
    rfl
   refine one_ (i := 9) (N := some 25) #[true, true, true, true, true, true, true, true, true, true, false, false, false, false] rfl rfl (Zd0 HT_.out (by kernel_rfl)) (by decide) (fun K hK => ?_)
   refine goes_ Tryz.func75 (by kernel_rfl) rfl #[.string a1] (by rfl) rfl rfl (by (try simp only [List.map_toArray, List.map_cons, List.map_nil]); first | done | rfl | (simp only [List.length_drop, List.length_take]; rfl)) ?_
   with_reducible refine (Zbh.calls k a1 t110 _ A6.out).mono ?_
   rintro e w' ⟨rfl, ⟨nd, rfl⟩⟩
   refine ⟨_, rfl, ?_⟩
   refine hK.out _ _ ⟨(Zai K09.out 0).trans rfl, (Zai K09.out 1).trans rfl, (Zai K09.out 2).trans rfl⟩ (fun hHeld => ?_)
   clear hK K
   refine norm_ (a' := ?_) ?_ ?_
   rotate_left
   ·show Act.put _ (some 25) _ = _
    simp only [Act.put, List.setIfInBounds_toArray, List.set_cons_zero, List.set_cons_succ, i64_w, i32_w]
    rfl
   refine pure_ (i := 10) (N := some 26) (v := ?_) (a' := ?_) #[true, true, true, true, true, true, true, true, true, true, true, false, false, false] rfl rfl (Zb5 HT_.out (by kernel_rfl)) (fun _ _ _ h => h) (Or.inl ⟨by rfl, ?_⟩) ?_ ?_
   rotate_left
   ·intro w'
    go_simp
    with_reducible rfl
   rotate_left
   ·simp only [Act.put, List.setIfInBounds_toArray, List.set_cons_zero, List.set_cons_succ, i64_w, i32_w]
    rfl
   refine one_ (i := 11) (N := none) #[true, true, true, true, true, true, true, true, true, true, true, true, false, false] rfl rfl (Zd0 HT_.out (by kernel_rfl)) (by decide) (fun K hK => ?_)
   have hs15 : w14.cell? ⟨g01, 0, none⟩ = some (.int .i64 0) := (Zai K01.out 0).trans rfl
   have hfs15 := Zae K01.out 0
   have hns15_1 := N09_01.out
   have hms15_1 := N01_09.out
   have hs16 : w14.cell? ⟨g01, 1, none⟩ = some (.int .i64 0) := (Zai K01.out 1).trans rfl
   have hfs16 := Zae K01.out 1
   have hns16_1 := N09_01.out
   have hms16_1 := N01_09.out
   have hs17 : w14.cell? ⟨g01, 2, none⟩ = some (.slice none 0 0) := (Zai K01.out 2).trans rfl
   have hfs17 := Zae K01.out 2
   have hns17_1 := N09_01.out
   have hms17_1 := N01_09.out
   refine skip_ (w1 := ?_) (by rfl) rfl ?_ ?_
   rotate_left
   ·go_simp
    rfl
   refine hK.out _ _ ⟨((Zbu (p := ⟨g01, _, none⟩) N09_01.out _).trans (((Zbu (p := ⟨g01, _, none⟩) N09_01.out _).trans (((Zbu (p := ⟨g01, _, none⟩) N09_01.out _).trans (hHeld.1)))))), ((Zbu (p := ⟨g01, _, none⟩) N09_01.out _).trans (((Zbu (p := ⟨g01, _, none⟩) N09_01.out _).trans (((Zbu (p := ⟨g01, _, none⟩) N09_01.out _).trans (hHeld.2.1)))))), ((Zbu (p := ⟨g01, _, none⟩) N09_01.out _).trans (((Zbu (p := ⟨g01, _, none⟩) N09_01.out _).trans (((Zbu (p := ⟨g01, _, none⟩) N09_01.out _).trans (hHeld.2.2))))))⟩ (fun hHeld => ?_)
   clear hK K
   refine pure_ (i := 12) (N := some 5) (v := ?_) (a' := ?_) #[true, true, true, true, true, true, true, true, true, true, true, true, true, false] rfl rfl (Zb5 HT_.out (by kernel_rfl)) (fun _ _ _ h => h) (Or.inl ⟨by rfl, ?_⟩) ?_ ?_
   rotate_left
   ·intro w'
    go_simp
    with_reducible rfl
   rotate_left
   ·simp only [Act.put, List.setIfInBounds_toArray, List.set_cons_zero, List.set_cons_succ, i64_w, i32_w]
    rfl
   refine pure_ (i := 13) (N := some 6) (v := ?_) (a' := ?_) #[true, true, true, true, true, true, true, true, true, true, true, true, true, true] rfl rfl (Zb5 HT_.out (by kernel_rfl)) (fun _ _ _ h => h) (Or.inl ⟨by rfl, ?_⟩) ?_ ?_
   rotate_left
   ·intro w'
    go_simp
    with_reducible rfl
   rotate_left
   ·simp only [Act.put, List.setIfInBounds_toArray, List.set_cons_zero, List.set_cons_succ, i64_w, i32_w]
    rfl
   refine done_ (Ze4 HT_.out (by kernel_rfl)) ?_
   try go_wp2
   refine bodyPost_ret (Zd7 rfl _ _ g01 52 #[.int .i64 t102, .int .i64 t103, .slice Ao12 t104.length co12] (0, 0) _ rfl (by (with_reducible repeat (first | refine Zag ?_ _ | refine Zaj ?_ | refine Zaf ?_ _)); refine Za1 (cs := #[.int .i64 t102, .int .i64 t103, .slice none 0 0]) ?_ 2 _ rfl; (with_reducible repeat (first | refine Zag ?_ _ | refine Zaj ?_ | refine Zaf ?_ _)); refine Za1 (cs := #[.int .i64 t102, .int .i64 0, .slice none 0 0]) ?_ 1 _ rfl; (with_reducible repeat (first | refine Zag ?_ _ | refine Zaj ?_ | refine Zaf ?_ _)); refine Za1 (cs := #[.int .i64 0, .int .i64 0, .slice none 0 0]) ?_ 0 _ rfl; (with_reducible repeat (first | refine Zag ?_ _ | refine Zaj ?_ | refine Zaf ?_ _)); exact K01.out) Tryz.underlying52 rfl (by kernel_rfl)) rfl ?_
   exact ⟨_, by first | rfl | (simp [Zao, Zan] <;> rfl) | (simp [*, Zao, Zan] <;> rfl), by (with_reducible repeat (first | apply Kd.R_alloc | apply Kd.R_drewN | apply Kd.R_drew)); exact Kd.R_mono (Kd.R_far (p := ⟨g01, 2, none⟩) (Kd.R_far (p := ⟨g01, 1, none⟩) (Kd.R_far (p := ⟨g01, 0, none⟩) (Kd.R_types HO106.out K01.out (by decide)) (fun _ hk => hk.2) (.int .i64 t102)) (fun _ hk => hk.2) (.int .i64 t103)) (fun _ hk => hk.2) (.slice Ao12 t104.length co12)) (fun _ hk => trivial), by repeat (first | (with_reducible first | exact HB.out | apply Zac | apply Zaa | apply Zab | refine Zah ?_ E01.out | refine Zah ?_ E09.out) | exact HB.out)⟩
  ·rw [if_neg c5] at H
   have c5b0 : decide (t107 ≤ 16) = false := decide_eq_false c5
   clear c5
   simp only [Option.some.injEq, Prod.mk.injEq] at H
   obtain ⟨rfl, rfl, rfl, rfl, rfl⟩ := H
   go_enter Tryz.func39, Tryz.ntmps39
   try go_wp2_with (first | ((with_reducible refine Zay (N := 4) rfl ?_); refine Zaz ?hg (N := 4) ?hd (cs := #[.int .i64 0, .int .i64 0, .slice none 0 0]) (t := 52) ?hr ?_; (case hd => rfl); (case hg => rfl); (case hr => first | (go_simp; done) | (go_simp; rfl)); intro g01 hg w18 hbox hb; have n0_ := Zad.mk (Zal (by with_reducible repeat first | exact HB.out | apply Zac | apply Zaa | apply Zab) hb); have n1_ := Zad.mk (hbox); have n2_ := Zad.mk ((by rw [hg]; exact (Zak (by with_reducible repeat first | exact HB.out | apply Zac | apply Zaa | apply Zab)) : w.heap.size ≤ g01)); have n3_ := n2_; clear HB; have HB := n0_; have K01 := n1_; have W01 := n2_; have E01 := n3_; clear hb hbox hg) | ((with_reducible refine Zau (f := 74) rfl ?_); refine Zbr (some 12) rfl rfl Tryz.func74 (by kernel_rfl) rfl #[.string a0] rfl (by (try simp only [List.map_toArray, List.map_cons, List.map_nil]); first | done | rfl | (simp only [List.length_drop, List.length_take]; rfl)) ?_; (with_reducible refine (Za6.calls k a0 t102 t103 t104 t107 true _ A3.out).mono ?_); rintro e w19 ⟨v105, rfl, ho0, hb⟩; refine ⟨_, rfl, ?_⟩; have n0_ := Zad.mk (Kd.R_lower ho0 (Zak (by with_reducible repeat first | exact HB.out | apply Zac | apply Zaa | apply Zab | refine Zah ?_ E01.out))); have n1_ := Zad.mk (Zav (g := g01) (o := .cells #[.int .i64 0, .int .i64 0, .slice none 0 0] 52 (0, 0)) (by (with_reducible repeat (first | refine Zag ?_ _ | refine Zaj ?_ | refine Zaf ?_ _)); exact K01.out) hb); have n2_ := Zad.mk (Zal (by with_reducible repeat first | exact HB.out | apply Zac | apply Zaa | apply Zab | refine Zah ?_ E01.out) hb); clear K01; clear HB; have HO106 := n0_; have K01 := n1_; have HB := n2_) | ((with_reducible refine Zay (N := 7) rfl ?_); refine Zaz ?hg (N := 7) ?hd (cs := #[.int .i64 0, .int .i64 0, .slice none 0 0]) (t := 52) ?hr ?_; (case hd => rfl); (case hg => rfl); (case hr => first | (go_simp; done) | (go_simp; rfl)); intro g09 hg w20 hbox hb; have n0_ := Zad.mk (Kd.R_below (by (with_reducible repeat (first | apply Kd.R_alloc | apply Kd.R_drewN | apply Kd.R_drew)); exact HO106.out) hb); have n1_ := Zad.mk (Zav (g := g01) (o := .cells #[.int .i64 0, .int .i64 0, .slice none 0 0] 52 (0, 0)) (by (with_reducible repeat (first | refine Zag ?_ _ | refine Zaj ?_ | refine Zaf ?_ _)); exact K01.out) hb); have n2_ := Zad.mk (Zal (by with_reducible repeat first | exact HB.out | apply Zac | apply Zaa | apply Zab | refine Zah ?_ E01.out) hb); have n3_ := Zad.mk (hbox); have n4_ := Zad.mk ((by rw [hg]; exact (Zak (by with_reducible repeat first | exact HB.out | apply Zac | apply Zaa | apply Zab | refine Zah ?_ E01.out)) : w.heap.size ≤ g09)); have n5_ := Zad.mk ((by rw [hg]; exact (Zak (by with_reducible repeat first | exact HB.out | apply Zac | apply Zaa | apply Zab | refine Zah ?_ E01.out)) : w.heap.size ≤ g09)); have n6_ := Zad.mk ((by rw [hg]; exact Nat.ne_of_lt (Zct (g := g01) (o := .cells #[.int .i64 0, .int .i64 0, .slice none 0 0] 52 (0, 0)) (by (with_reducible repeat (first | refine Zag ?_ _ | refine Zaj ?_ | refine Zaf ?_ _)); exact K01.out)) : g01 ≠ g09)); have n7_ := Zad.mk ((by rw [hg]; exact Nat.ne_of_gt (Zct (g := g01) (o := .cells #[.int .i64 0, .int .i64 0, .slice none 0 0] 52 (0, 0)) (by (with_reducible repeat (first | refine Zag ?_ _ | refine Zaj ?_ | refine Zaf ?_ _)); exact K01.out)) : g09 ≠ g01)); clear HO106; clear K01; clear HB; have HO106 := n0_; have K01 := n1_; have HB := n2_; have K09 := n3_; have W09 := n4_; have E09 := n5_; have N01_09 := n6_; have N09_01 := n7_; clear hb hbox hg; have hnb21 := N09_01.out; have hnc21 := N01_09.out; have hcz22_0 : w20.cell? ⟨g09, 0, none⟩ = some (.int .i64 0) := (Zai K09.out 0).trans rfl; have hcz22_1 : w20.cell? ⟨g09, 1, none⟩ = some (.int .i64 0) := (Zai K09.out 1).trans rfl; have hcz22_2 : w20.cell? ⟨g09, 2, none⟩ = some (.slice none 0 0) := (Zai K09.out 2).trans rfl; have hfz22_0 := Zae K09.out 0; have hfz22_1 := Zae K09.out 1; have hfz22_2 := Zae K09.out 2; obtain ⟨Ao23, co23, eo23⟩ := Kd.R_slice HO106.out; subst eo23))
   have n0_ : Zad (Kd.R (Kd.int .u8) 5 (((w20.setCell ⟨g09, 0, none⟩ (.int .i64 t102)).setCell ⟨g09, 1, none⟩ (.int .i64 t103)).setCell ⟨g09, 2, none⟩ (.slice Ao23 t104.length co23)) w.heap.size (fun _ => True) (.slice Ao23 t104.length co23) t104) := ⟨by (with_reducible repeat (first | apply Kd.R_alloc | apply Kd.R_drewN | apply Kd.R_drew)); exact Kd.R_mono (Kd.R_far (p := ⟨g09, 2, none⟩) (Kd.R_far (p := ⟨g09, 1, none⟩) (Kd.R_far (p := ⟨g09, 0, none⟩) (Kd.R_types HO106.out K09.out (by decide)) (fun _ hk => hk.2) (.int .i64 t102)) (fun _ hk => hk.2) (.int .i64 t103)) (fun _ hk => hk.2) (.slice Ao23 t104.length co23)) (fun _ hk => trivial)⟩
   have n1_ : Zad ((((w20.setCell ⟨g09, 0, none⟩ (.int .i64 t102)).setCell ⟨g09, 1, none⟩ (.int .i64 t103)).setCell ⟨g09, 2, none⟩ (.slice Ao23 t104.length co23)).heap[g01]? = some (.cells #[.int .i64 0, .int .i64 0, .slice none 0 0] 52 (0, 0))) := ⟨by (with_reducible repeat (first | refine Zag ?_ _ | refine Zaj ?_ | refine Zaf ?_ _)); refine Zb9 ?_ N01_09.out _; (with_reducible repeat (first | refine Zag ?_ _ | refine Zaj ?_ | refine Zaf ?_ _)); refine Zb9 ?_ N01_09.out _; (with_reducible repeat (first | refine Zag ?_ _ | refine Zaj ?_ | refine Zaf ?_ _)); refine Zb9 ?_ N01_09.out _; (with_reducible repeat (first | refine Zag ?_ _ | refine Zaj ?_ | refine Zaf ?_ _)); exact K01.out⟩
   have n2_ : Zad ((((w20.setCell ⟨g09, 0, none⟩ (.int .i64 t102)).setCell ⟨g09, 1, none⟩ (.int .i64 t103)).setCell ⟨g09, 2, none⟩ (.slice Ao23 t104.length co23)).heap[g09]? = some (.cells #[.int .i64 t102, .int .i64 t103, .slice Ao23 t104.length co23] 52 (0, 0))) := ⟨by (with_reducible repeat (first | refine Zag ?_ _ | refine Zaj ?_ | refine Zaf ?_ _)); refine Za1 (cs := #[.int .i64 t102, .int .i64 t103, .slice none 0 0]) ?_ 2 _ rfl; (with_reducible repeat (first | refine Zag ?_ _ | refine Zaj ?_ | refine Zaf ?_ _)); refine Za1 (cs := #[.int .i64 t102, .int .i64 0, .slice none 0 0]) ?_ 1 _ rfl; (with_reducible repeat (first | refine Zag ?_ _ | refine Zaj ?_ | refine Zaf ?_ _)); refine Za1 (cs := #[.int .i64 0, .int .i64 0, .slice none 0 0]) ?_ 0 _ rfl; (with_reducible repeat (first | refine Zag ?_ _ | refine Zaj ?_ | refine Zaf ?_ _)); exact K09.out⟩
   have n3_ : Zad (Below w.heap.size w (((w20.setCell ⟨g09, 0, none⟩ (.int .i64 t102)).setCell ⟨g09, 1, none⟩ (.int .i64 t103)).setCell ⟨g09, 2, none⟩ (.slice Ao23 t104.length co23))) := ⟨by with_reducible repeat first | exact HB.out | apply Zac | apply Zaa | apply Zab | refine Zah ?_ E01.out | refine Zah ?_ E09.out⟩
   (try clear HO106)
   (try clear K01)
   (try clear K09)
   (try clear HB)
   generalize (((w20.setCell ⟨g09, 0, none⟩ (.int .i64 t102)).setCell ⟨g09, 1, none⟩ (.int .i64 t103)).setCell ⟨g09, 2, none⟩ (.slice Ao23 t104.length co23)) = w24 at n0_ n1_ n2_ n3_ ⊢
   have HO106 := n0_
   have K01 := n1_
   have K09 := n2_
   have HB := n3_
   clear n0_ n1_ n2_ n3_
   have n0_ := Zad.mk (Kd.R_drew HO106.out)
   have n1_ := Zad.mk (Zaj K01.out)
   have n2_ := Zad.mk (Zaj K09.out)
   have n3_ := Zad.mk (Zab HB.out)
   clear HO106
   clear K01
   clear K09
   clear HB
   have HO106 := n0_
   have K01 := n1_
   have K09 := n2_
   have HB := n3_
   clear n0_ n1_ n2_ n3_
   refine Zfe (n := 14) (S := fun w' => w'.cell? ⟨g09, 0, none⟩ = some (.int .i64 t102) ∧ w'.cell? ⟨g09, 1, none⟩ = some (.int .i64 t103) ∧ w'.cell? ⟨g09, 2, none⟩ = some (.slice Ao23 t104.length co23)) (ds := []) #[false, false, false, false, false, false, false, false, false, false, false, false, false, false] (by kernel_rfl) rfl rfl ⟨(Zai K09.out 0).trans rfl, (Zai K09.out 1).trans rfl, (Zai K09.out 2).trans rfl⟩ (fun hHeld => ?_); refine Zdv Zbt.tab2 Zbt.bits2 (fun HT_ HW_ => ?_)
   generalize w24.drew = w25 at HO106 K01 K09 HB hHeld ⊢
   refine pure_ (i := 1) (N := some 17) (v := ?_) (a' := ?_) #[false, true, false, false, false, false, false, false, false, false, false, false, false, false] rfl rfl (Zb5 HT_.out (by kernel_rfl)) (fun _ _ _ h => h) (Or.inl ⟨by rfl, ?_⟩) ?_ ?_
   rotate_left
   ·intro w'
    go_simp
    with_reducible rfl
   rotate_left
   ·simp only [Act.put, List.setIfInBounds_toArray, List.set_cons_zero, List.set_cons_succ, i64_w, i32_w]
    rfl
   refine pure_ (i := 2) (N := some 18) (v := ?_) (a' := ?_) #[false, true, true, false, false, false, false, false, false, false, false, false, false, false] rfl rfl (Zb5 HT_.out (by kernel_rfl)) (fun _ _ _ h => h) (Or.inl ⟨by rfl, ?_⟩) ?_ ?_
   rotate_left
   ·intro w'
    go_simp
    with_reducible rfl
   rotate_left
   ·simp only [Act.put, List.setIfInBounds_toArray, List.set_cons_zero, List.set_cons_succ, i64_w, i32_w]
    rfl
   refine pure_ (i := 3) (N := some 19) (v := ?_) (a' := ?_) #[false, true, true, true, false, false, false, false, false, false, false, false, false, false] rfl rfl (Zb5 HT_.out (by kernel_rfl)) (fun _ _ _ h => h) (Or.inl ⟨by rfl, ?_⟩) ?_ ?_
   rotate_left
   ·intro w'
    go_simp
    with_reducible rfl
   rotate_left
   ·simp only [Act.put, List.setIfInBounds_toArray, List.set_cons_zero, List.set_cons_succ, i64_w, i32_w]
    rfl
   refine pure_ (i := 4) (N := some 20) (v := ?_) (a' := ?_) #[false, true, true, true, true, false, false, false, false, false, false, false, false, false] rfl rfl (Zb5 HT_.out (by kernel_rfl)) (fun _ _ _ h => h) (Or.inl ⟨by rfl, ?_⟩) ?_ ?_
   rotate_left
   ·intro w'
    go_simp
    with_reducible rfl
   rotate_left
   ·simp only [Act.put, List.setIfInBounds_toArray, List.set_cons_zero, List.set_cons_succ, i64_w, i32_w]
    rfl
   refine pure_ (i := 5) (N := some 21) (v := ?_) (a' := ?_) #[false, true, true, true, true, true, false, false, false, false, false, false, false, false] rfl rfl (Zb5 HT_.out (by kernel_rfl)) (fun _ _ _ h => h) (Or.inl ⟨by rfl, ?_⟩) ?_ ?_
   rotate_left
   ·intro w'
    go_simp
    with_reducible rfl
   rotate_left
   ·simp only [Act.put, List.setIfInBounds_toArray, List.set_cons_zero, List.set_cons_succ, i64_w, i32_w]
    rfl
   refine pure_ (i := 6) (N := some 22) (v := ?_) (a' := ?_) #[false, true, true, true, true, true, true, false, false, false, false, false, false, false] rfl rfl (Zb5 HT_.out (by kernel_rfl)) (fun _ _ _ h => h) (Or.inl ⟨by rfl, ?_⟩) ?_ ?_
   rotate_left
   ·intro w'
    go_simp
    with_reducible rfl
   rotate_left
   ·simp only [Act.put, List.setIfInBounds_toArray, List.set_cons_zero, List.set_cons_succ, i64_w, i32_w]
    rfl
   refine pure_ (i := 7) (N := some 23) (v := ?_) (a' := ?_) #[false, true, true, true, true, true, true, true, false, false, false, false, false, false] rfl rfl (Zb5 HT_.out (by kernel_rfl)) (fun _ _ _ h => h) (Or.inl ⟨by rfl, ?_⟩) ?_ ?_
   rotate_left
   ·intro w'
    go_simp
    with_reducible rfl
   rotate_left
   ·simp only [Act.put, List.setIfInBounds_toArray, List.set_cons_zero, List.set_cons_succ, i64_w, i32_w]
    rfl
   refine pure_ (i := 8) (N := some 24) (v := undef) (a' := ?_) #[false, true, true, true, true, true, true, true, true, false, false, false, false, false] rfl rfl (Zb5 HT_.out (by kernel_rfl)) (fun _ _ _ h => h) (Or.inr ⟨by rfl, rfl⟩) ?_ ?_
   rotate_left
   ·simp only [Act.put, List.setIfInBounds_toArray, List.set_cons_zero, List.set_cons_succ, i64_w, i32_w]
    rfl
   refine pure_ (i := 9) (N := some 25) (v := undef) (a' := ?_) #[false, true, true, true, true, true, true, true, true, true, false, false, false, false] rfl rfl (Zb5 HT_.out (by kernel_rfl)) (fun _ _ _ h => h) (Or.inr ⟨by rfl, rfl⟩) ?_ ?_
   rotate_left
   ·simp only [Act.put, List.setIfInBounds_toArray, List.set_cons_zero, List.set_cons_succ, i64_w, i32_w]
    rfl
   refine pure_ (i := 10) (N := some 26) (v := ?_) (a' := ?_) #[false, true, true, true, true, true, true, true, true, true, true, false, false, false] rfl rfl (Zb5 HT_.out (by kernel_rfl)) (fun _ _ _ h => h) (Or.inl ⟨by rfl, ?_⟩) ?_ ?_
   rotate_left
   ·intro w'
    go_simp
    with_reducible rfl
   rotate_left
   ·simp only [Act.put, List.setIfInBounds_toArray, List.set_cons_zero, List.set_cons_succ, i64_w, i32_w]
    rfl
   refine take_ (i := 0) (N := some 16) (v := ?_) (a' := ?_) #[true, true, true, true, true, true, true, true, true, true, true, false, false, false] rfl rfl (Zdb HT_.out HW_.out (by kernel_rfl)) (fun _ _ _ h => h) (Or.inl ⟨by rfl, ?_⟩) hHeld ?_ ?_
   rotate_left
   ·rintro w' ⟨s0, s1, s2⟩
    go_simp
    with_reducible rfl
   rotate_left
   ·simp only [Act.put, List.setIfInBounds_toArray, List.set_cons_zero, List.set_cons_succ, i64_w, i32_w]
    rfl
   refine one_ (i := 11) (N := none) #[true, true, true, true, true, true, true, true, true, true, true, true, false, false] rfl rfl (Zd0 HT_.out (by kernel_rfl)) (by decide) (fun K hK => ?_)
   have hs26 : w25.cell? ⟨g01, 0, none⟩ = some (.int .i64 0) := (Zai K01.out 0).trans rfl
   have hfs26 := Zae K01.out 0
   have hns26_1 := N09_01.out
   have hms26_1 := N01_09.out
   have hs27 : w25.cell? ⟨g01, 1, none⟩ = some (.int .i64 0) := (Zai K01.out 1).trans rfl
   have hfs27 := Zae K01.out 1
   have hns27_1 := N09_01.out
   have hms27_1 := N01_09.out
   have hs28 : w25.cell? ⟨g01, 2, none⟩ = some (.slice none 0 0) := (Zai K01.out 2).trans rfl
   have hfs28 := Zae K01.out 2
   have hns28_1 := N09_01.out
   have hms28_1 := N01_09.out
   refine skip_ (w1 := ?_) (by rfl) rfl ?_ ?_
   rotate_left
   ·go_simp
    rfl
   refine hK.out _ _ ⟨((Zbu (p := ⟨g01, _, none⟩) N09_01.out _).trans (((Zbu (p := ⟨g01, _, none⟩) N09_01.out _).trans (((Zbu (p := ⟨g01, _, none⟩) N09_01.out _).trans (hHeld.1)))))), ((Zbu (p := ⟨g01, _, none⟩) N09_01.out _).trans (((Zbu (p := ⟨g01, _, none⟩) N09_01.out _).trans (((Zbu (p := ⟨g01, _, none⟩) N09_01.out _).trans (hHeld.2.1)))))), ((Zbu (p := ⟨g01, _, none⟩) N09_01.out _).trans (((Zbu (p := ⟨g01, _, none⟩) N09_01.out _).trans (((Zbu (p := ⟨g01, _, none⟩) N09_01.out _).trans (hHeld.2.2))))))⟩ (fun hHeld => ?_)
   clear hK K
   refine pure_ (i := 12) (N := some 5) (v := ?_) (a' := ?_) #[true, true, true, true, true, true, true, true, true, true, true, true, true, false] rfl rfl (Zb5 HT_.out (by kernel_rfl)) (fun _ _ _ h => h) (Or.inl ⟨by rfl, ?_⟩) ?_ ?_
   rotate_left
   ·intro w'
    go_simp
    with_reducible rfl
   rotate_left
   ·simp only [Act.put, List.setIfInBounds_toArray, List.set_cons_zero, List.set_cons_succ, i64_w, i32_w]
    rfl
   refine pure_ (i := 13) (N := some 6) (v := ?_) (a' := ?_) #[true, true, true, true, true, true, true, true, true, true, true, true, true, true] rfl rfl (Zb5 HT_.out (by kernel_rfl)) (fun _ _ _ h => h) (Or.inl ⟨by rfl, ?_⟩) ?_ ?_
   rotate_left
   ·intro w'
    go_simp
    with_reducible rfl
   rotate_left
   ·simp only [Act.put, List.setIfInBounds_toArray, List.set_cons_zero, List.set_cons_succ, i64_w, i32_w]
    rfl
   refine done_ (Ze4 HT_.out (by kernel_rfl)) ?_
   try go_wp2
   refine bodyPost_ret (Zd7 rfl _ _ g01 52 #[.int .i64 t102, .int .i64 t103, .slice Ao23 t104.length co23] (0, 0) _ rfl (by (with_reducible repeat (first | refine Zag ?_ _ | refine Zaj ?_ | refine Zaf ?_ _)); refine Za1 (cs := #[.int .i64 t102, .int .i64 t103, .slice none 0 0]) ?_ 2 _ rfl; (with_reducible repeat (first | refine Zag ?_ _ | refine Zaj ?_ | refine Zaf ?_ _)); refine Za1 (cs := #[.int .i64 t102, .int .i64 0, .slice none 0 0]) ?_ 1 _ rfl; (with_reducible repeat (first | refine Zag ?_ _ | refine Zaj ?_ | refine Zaf ?_ _)); refine Za1 (cs := #[.int .i64 0, .int .i64 0, .slice none 0 0]) ?_ 0 _ rfl; (with_reducible repeat (first | refine Zag ?_ _ | refine Zaj ?_ | refine Zaf ?_ _)); exact K01.out) Tryz.underlying52 rfl (by kernel_rfl)) rfl ?_
   exact ⟨_, by first | rfl | (simp [Zao, Zan] <;> rfl) | (simp [*, Zao, Zan] <;> rfl), by (with_reducible repeat (first | apply Kd.R_alloc | apply Kd.R_drewN | apply Kd.R_drew)); exact Kd.R_mono (Kd.R_far (p := ⟨g01, 2, none⟩) (Kd.R_far (p := ⟨g01, 1, none⟩) (Kd.R_far (p := ⟨g01, 0, none⟩) (Kd.R_types HO106.out K01.out (by decide)) (fun _ hk => hk.2) (.int .i64 t102)) (fun _ hk => hk.2) (.int .i64 t103)) (fun _ hk => hk.2) (.slice Ao23 t104.length co23)) (fun _ hk => trivial), by repeat (first | (with_reducible first | exact HB.out | apply Zac | apply Zaa | apply Zab | refine Zah ?_ E01.out | refine Zah ?_ E09.out) | exact HB.out)⟩
 ·replace c4 := Bool.eq_false_iff.mpr c4
  subst c4
  have H1 : (some (t102, t103, t104, t107, false)) = some (r1, r2, r3, r4, r5) := by rw [if_neg (show ¬ (false = true) by decide)] at H; exact H
  clear H
  have H := H1
  clear H1
  simp only [Option.some.injEq, Prod.mk.injEq] at H
  obtain ⟨rfl, rfl, rfl, rfl, rfl⟩ := H
  go_enter Tryz.func39, Tryz.ntmps39
  try go_wp2_with (first | ((with_reducible refine Zay (N := 4) rfl ?_); refine Zaz ?hg (N := 4) ?hd (cs := #[.int .i64 0, .int .i64 0, .slice none 0 0]) (t := 52) ?hr ?_; (case hd => rfl); (case hg => rfl); (case hr => first | (go_simp; done) | (go_simp; rfl)); intro g01 hg w29 hbox hb; have n0_ := Zad.mk (Zal (by with_reducible repeat first | exact HB.out | apply Zac | apply Zaa | apply Zab) hb); have n1_ := Zad.mk (hbox); have n2_ := Zad.mk ((by rw [hg]; exact (Zak (by with_reducible repeat first | exact HB.out | apply Zac | apply Zaa | apply Zab)) : w.heap.size ≤ g01)); have n3_ := n2_; clear HB; have HB := n0_; have K01 := n1_; have W01 := n2_; have E01 := n3_; clear hb hbox hg) | ((with_reducible refine Zau (f := 74) rfl ?_); refine Zbr (some 12) rfl rfl Tryz.func74 (by kernel_rfl) rfl #[.string a0] rfl (by (try simp only [List.map_toArray, List.map_cons, List.map_nil]); first | done | rfl | (simp only [List.length_drop, List.length_take]; rfl)) ?_; (with_reducible refine (Za6.calls k a0 t102 t103 t104 t107 false _ A3.out).mono ?_); rintro e w30 ⟨v105, rfl, ho0, hb⟩; refine ⟨_, rfl, ?_⟩; have n0_ := Zad.mk (Kd.R_lower ho0 (Zak (by with_reducible repeat first | exact HB.out | apply Zac | apply Zaa | apply Zab | refine Zah ?_ E01.out))); have n1_ := Zad.mk (Zav (g := g01) (o := .cells #[.int .i64 0, .int .i64 0, .slice none 0 0] 52 (0, 0)) (by (with_reducible repeat (first | refine Zag ?_ _ | refine Zaj ?_ | refine Zaf ?_ _)); exact K01.out) hb); have n2_ := Zad.mk (Zal (by with_reducible repeat first | exact HB.out | apply Zac | apply Zaa | apply Zab | refine Zah ?_ E01.out) hb); clear K01; clear HB; have HO106 := n0_; have K01 := n1_; have HB := n2_) | ((with_reducible refine Zay (N := 7) rfl ?_); refine Zaz ?hg (N := 7) ?hd (cs := #[.int .i64 0, .int .i64 0, .slice none 0 0]) (t := 52) ?hr ?_; (case hd => rfl); (case hg => rfl); (case hr => first | (go_simp; done) | (go_simp; rfl)); intro g09 hg w31 hbox hb; have n0_ := Zad.mk (Kd.R_below (by (with_reducible repeat (first | apply Kd.R_alloc | apply Kd.R_drewN | apply Kd.R_drew)); exact HO106.out) hb); have n1_ := Zad.mk (Zav (g := g01) (o := .cells #[.int .i64 0, .int .i64 0, .slice none 0 0] 52 (0, 0)) (by (with_reducible repeat (first | refine Zag ?_ _ | refine Zaj ?_ | refine Zaf ?_ _)); exact K01.out) hb); have n2_ := Zad.mk (Zal (by with_reducible repeat first | exact HB.out | apply Zac | apply Zaa | apply Zab | refine Zah ?_ E01.out) hb); have n3_ := Zad.mk (hbox); have n4_ := Zad.mk ((by rw [hg]; exact (Zak (by with_reducible repeat first | exact HB.out | apply Zac | apply Zaa | apply Zab | refine Zah ?_ E01.out)) : w.heap.size ≤ g09)); have n5_ := Zad.mk ((by rw [hg]; exact (Zak (by with_reducible repeat first | exact HB.out | apply Zac | apply Zaa | apply Zab | refine Zah ?_ E01.out)) : w.heap.size ≤ g09)); have n6_ := Zad.mk ((by rw [hg]; exact Nat.ne_of_lt (Zct (g := g01) (o := .cells #[.int .i64 0, .int .i64 0, .slice none 0 0] 52 (0, 0)) (by (with_reducible repeat (first | refine Zag ?_ _ | refine Zaj ?_ | refine Zaf ?_ _)); exact K01.out)) : g01 ≠ g09)); have n7_ := Zad.mk ((by rw [hg]; exact Nat.ne_of_gt (Zct (g := g01) (o := .cells #[.int .i64 0, .int .i64 0, .slice none 0 0] 52 (0, 0)) (by (with_reducible repeat (first | refine Zag ?_ _ | refine Zaj ?_ | refine Zaf ?_ _)); exact K01.out)) : g09 ≠ g01)); clear HO106; clear K01; clear HB; have HO106 := n0_; have K01 := n1_; have HB := n2_; have K09 := n3_; have W09 := n4_; have E09 := n5_; have N01_09 := n6_; have N09_01 := n7_; clear hb hbox hg; have hnb32 := N09_01.out; have hnc32 := N01_09.out; have hcz33_0 : w31.cell? ⟨g09, 0, none⟩ = some (.int .i64 0) := (Zai K09.out 0).trans rfl; have hcz33_1 : w31.cell? ⟨g09, 1, none⟩ = some (.int .i64 0) := (Zai K09.out 1).trans rfl; have hcz33_2 : w31.cell? ⟨g09, 2, none⟩ = some (.slice none 0 0) := (Zai K09.out 2).trans rfl; have hfz33_0 := Zae K09.out 0; have hfz33_1 := Zae K09.out 1; have hfz33_2 := Zae K09.out 2; obtain ⟨Ao34, co34, eo34⟩ := Kd.R_slice HO106.out; subst eo34))
  have n0_ : Zad (Kd.R (Kd.int .u8) 5 (((w31.setCell ⟨g09, 0, none⟩ (.int .i64 t102)).setCell ⟨g09, 1, none⟩ (.int .i64 t103)).setCell ⟨g09, 2, none⟩ (.slice Ao34 t104.length co34)) w.heap.size (fun _ => True) (.slice Ao34 t104.length co34) t104) := ⟨by (with_reducible repeat (first | apply Kd.R_alloc | apply Kd.R_drewN | apply Kd.R_drew)); exact Kd.R_mono (Kd.R_far (p := ⟨g09, 2, none⟩) (Kd.R_far (p := ⟨g09, 1, none⟩) (Kd.R_far (p := ⟨g09, 0, none⟩) (Kd.R_types HO106.out K09.out (by decide)) (fun _ hk => hk.2) (.int .i64 t102)) (fun _ hk => hk.2) (.int .i64 t103)) (fun _ hk => hk.2) (.slice Ao34 t104.length co34)) (fun _ hk => trivial)⟩
  have n1_ : Zad ((((w31.setCell ⟨g09, 0, none⟩ (.int .i64 t102)).setCell ⟨g09, 1, none⟩ (.int .i64 t103)).setCell ⟨g09, 2, none⟩ (.slice Ao34 t104.length co34)).heap[g01]? = some (.cells #[.int .i64 0, .int .i64 0, .slice none 0 0] 52 (0, 0))) := ⟨by (with_reducible repeat (first | refine Zag ?_ _ | refine Zaj ?_ | refine Zaf ?_ _)); refine Zb9 ?_ N01_09.out _; (with_reducible repeat (first | refine Zag ?_ _ | refine Zaj ?_ | refine Zaf ?_ _)); refine Zb9 ?_ N01_09.out _; (with_reducible repeat (first | refine Zag ?_ _ | refine Zaj ?_ | refine Zaf ?_ _)); refine Zb9 ?_ N01_09.out _; (with_reducible repeat (first | refine Zag ?_ _ | refine Zaj ?_ | refine Zaf ?_ _)); exact K01.out⟩
  have n2_ : Zad ((((w31.setCell ⟨g09, 0, none⟩ (.int .i64 t102)).setCell ⟨g09, 1, none⟩ (.int .i64 t103)).setCell ⟨g09, 2, none⟩ (.slice Ao34 t104.length co34)).heap[g09]? = some (.cells #[.int .i64 t102, .int .i64 t103, .slice Ao34 t104.length co34] 52 (0, 0))) := ⟨by (with_reducible repeat (first | refine Zag ?_ _ | refine Zaj ?_ | refine Zaf ?_ _)); refine Za1 (cs := #[.int .i64 t102, .int .i64 t103, .slice none 0 0]) ?_ 2 _ rfl; (with_reducible repeat (first | refine Zag ?_ _ | refine Zaj ?_ | refine Zaf ?_ _)); refine Za1 (cs := #[.int .i64 t102, .int .i64 0, .slice none 0 0]) ?_ 1 _ rfl; (with_reducible repeat (first | refine Zag ?_ _ | refine Zaj ?_ | refine Zaf ?_ _)); refine Za1 (cs := #[.int .i64 0, .int .i64 0, .slice none 0 0]) ?_ 0 _ rfl; (with_reducible repeat (first | refine Zag ?_ _ | refine Zaj ?_ | refine Zaf ?_ _)); exact K09.out⟩
  have n3_ : Zad (Below w.heap.size w (((w31.setCell ⟨g09, 0, none⟩ (.int .i64 t102)).setCell ⟨g09, 1, none⟩ (.int .i64 t103)).setCell ⟨g09, 2, none⟩ (.slice Ao34 t104.length co34))) := ⟨by with_reducible repeat first | exact HB.out | apply Zac | apply Zaa | apply Zab | refine Zah ?_ E01.out | refine Zah ?_ E09.out⟩
  (try clear HO106)
  (try clear K01)
  (try clear K09)
  (try clear HB)
  generalize (((w31.setCell ⟨g09, 0, none⟩ (.int .i64 t102)).setCell ⟨g09, 1, none⟩ (.int .i64 t103)).setCell ⟨g09, 2, none⟩ (.slice Ao34 t104.length co34)) = w35 at n0_ n1_ n2_ n3_ ⊢
  have HO106 := n0_
  have K01 := n1_
  have K09 := n2_
  have HB := n3_
  clear n0_ n1_ n2_ n3_
  have n0_ := Zad.mk (Kd.R_drew HO106.out)
  have n1_ := Zad.mk (Zaj K01.out)
  have n2_ := Zad.mk (Zaj K09.out)
  have n3_ := Zad.mk (Zab HB.out)
  clear HO106
  clear K01
  clear K09
  clear HB
  have HO106 := n0_
  have K01 := n1_
  have K09 := n2_
  have HB := n3_
  clear n0_ n1_ n2_ n3_
  refine Zfe (n := 14) (S := fun w' => w'.cell? ⟨g09, 0, none⟩ = some (.int .i64 t102) ∧ w'.cell? ⟨g09, 1, none⟩ = some (.int .i64 t103) ∧ w'.cell? ⟨g09, 2, none⟩ = some (.slice Ao34 t104.length co34)) (ds := []) #[false, false, false, false, false, false, false, false, false, false, false, false, false, false] (by kernel_rfl) rfl rfl ⟨(Zai K09.out 0).trans rfl, (Zai K09.out 1).trans rfl, (Zai K09.out 2).trans rfl⟩ (fun hHeld => ?_); refine Zdv Zbt.tab2 Zbt.bits2 (fun HT_ HW_ => ?_)
  generalize w35.drew = w36 at HO106 K01 K09 HB hHeld ⊢
  refine pure_ (i := 1) (N := some 17) (v := ?_) (a' := ?_) #[false, true, false, false, false, false, false, false, false, false, false, false, false, false] rfl rfl (Zb5 HT_.out (by kernel_rfl)) (fun _ _ _ h => h) (Or.inl ⟨by rfl, ?_⟩) ?_ ?_
  rotate_left
  ·intro w'
   go_simp
   with_reducible rfl
  rotate_left
  ·simp only [Act.put, List.setIfInBounds_toArray, List.set_cons_zero, List.set_cons_succ, i64_w, i32_w]
   rfl
  refine pure_ (i := 2) (N := some 18) (v := ?_) (a' := ?_) #[false, true, true, false, false, false, false, false, false, false, false, false, false, false] rfl rfl (Zb5 HT_.out (by kernel_rfl)) (fun _ _ _ h => h) (Or.inl ⟨by rfl, ?_⟩) ?_ ?_
  rotate_left
  ·intro w'
   go_simp
   with_reducible rfl
  rotate_left
  ·simp only [Act.put, List.setIfInBounds_toArray, List.set_cons_zero, List.set_cons_succ, i64_w, i32_w]
   rfl
  refine pure_ (i := 3) (N := some 19) (v := ?_) (a' := ?_) #[false, true, true, true, false, false, false, false, false, false, false, false, false, false] rfl rfl (Zb5 HT_.out (by kernel_rfl)) (fun _ _ _ h => h) (Or.inl ⟨by rfl, ?_⟩) ?_ ?_
  rotate_left
  ·intro w'
   go_simp
   with_reducible rfl
  rotate_left
  ·simp only [Act.put, List.setIfInBounds_toArray, List.set_cons_zero, List.set_cons_succ, i64_w, i32_w]
   rfl
  refine pure_ (i := 4) (N := some 20) (v := undef) (a' := ?_) #[false, true, true, true, true, false, false, false, false, false, false, false, false, false] rfl rfl (Zb5 HT_.out (by kernel_rfl)) (fun _ _ _ h => h) (Or.inr ⟨by rfl, rfl⟩) ?_ ?_
  rotate_left
  ·simp only [Act.put, List.setIfInBounds_toArray, List.set_cons_zero, List.set_cons_succ, i64_w, i32_w]
   rfl
  refine pure_ (i := 5) (N := some 21) (v := undef) (a' := ?_) #[false, true, true, true, true, true, false, false, false, false, false, false, false, false] rfl rfl (Zb5 HT_.out (by kernel_rfl)) (fun _ _ _ h => h) (Or.inr ⟨by rfl, rfl⟩) ?_ ?_
  rotate_left
  ·simp only [Act.put, List.setIfInBounds_toArray, List.set_cons_zero, List.set_cons_succ, i64_w, i32_w]
   rfl
  refine pure_ (i := 6) (N := some 22) (v := ?_) (a' := ?_) #[false, true, true, true, true, true, true, false, false, false, false, false, false, false] rfl rfl (Zb5 HT_.out (by kernel_rfl)) (fun _ _ _ h => h) (Or.inl ⟨by rfl, ?_⟩) ?_ ?_
  rotate_left
  ·intro w'
   go_simp
   with_reducible rfl
  rotate_left
  ·simp only [Act.put, List.setIfInBounds_toArray, List.set_cons_zero, List.set_cons_succ, i64_w, i32_w]
   rfl
  refine pure_ (i := 7) (N := some 23) (v := ?_) (a' := ?_) #[false, true, true, true, true, true, true, true, false, false, false, false, false, false] rfl rfl (Zb5 HT_.out (by kernel_rfl)) (fun _ _ _ h => h) (Or.inl ⟨by rfl, ?_⟩) ?_ ?_
  rotate_left
  ·intro w'
   go_simp
   with_reducible rfl
  rotate_left
  ·simp only [Act.put, List.setIfInBounds_toArray, List.set_cons_zero, List.set_cons_succ, i64_w, i32_w]
   rfl
  refine pure_ (i := 8) (N := some 24) (v := undef) (a' := ?_) #[false, true, true, true, true, true, true, true, true, false, false, false, false, false] rfl rfl (Zb5 HT_.out (by kernel_rfl)) (fun _ _ _ h => h) (Or.inr ⟨by rfl, rfl⟩) ?_ ?_
  rotate_left
  ·simp only [Act.put, List.setIfInBounds_toArray, List.set_cons_zero, List.set_cons_succ, i64_w, i32_w]
   rfl
  refine pure_ (i := 9) (N := some 25) (v := undef) (a' := ?_) #[false, true, true, true, true, true, true, true, true, true, false, false, false, false] rfl rfl (Zb5 HT_.out (by kernel_rfl)) (fun _ _ _ h => h) (Or.inr ⟨by rfl, rfl⟩) ?_ ?_
  rotate_left
  ·simp only [Act.put, List.setIfInBounds_toArray, List.set_cons_zero, List.set_cons_succ, i64_w, i32_w]
   rfl
  refine pure_ (i := 10) (N := some 26) (v := ?_) (a' := ?_) #[false, true, true, true, true, true, true, true, true, true, true, false, false, false] rfl rfl (Zb5 HT_.out (by kernel_rfl)) (fun _ _ _ h => h) (Or.inl ⟨by rfl, ?_⟩) ?_ ?_
  rotate_left
  ·intro w'
   go_simp
   with_reducible rfl
  rotate_left
  ·simp only [Act.put, List.setIfInBounds_toArray, List.set_cons_zero, List.set_cons_succ, i64_w, i32_w]
   rfl
  refine take_ (i := 0) (N := some 16) (v := ?_) (a' := ?_) #[true, true, true, true, true, true, true, true, true, true, true, false, false, false] rfl rfl (Zdb HT_.out HW_.out (by kernel_rfl)) (fun _ _ _ h => h) (Or.inl ⟨by rfl, ?_⟩) hHeld ?_ ?_
  rotate_left
  ·rintro w' ⟨s0, s1, s2⟩
   go_simp
   with_reducible rfl
  rotate_left
  ·simp only [Act.put, List.setIfInBounds_toArray, List.set_cons_zero, List.set_cons_succ, i64_w, i32_w]
   rfl
  refine one_ (i := 11) (N := none) #[true, true, true, true, true, true, true, true, true, true, true, true, false, false] rfl rfl (Zd0 HT_.out (by kernel_rfl)) (by decide) (fun K hK => ?_)
  have hs37 : w36.cell? ⟨g01, 0, none⟩ = some (.int .i64 0) := (Zai K01.out 0).trans rfl
  have hfs37 := Zae K01.out 0
  have hns37_1 := N09_01.out
  have hms37_1 := N01_09.out
  have hs38 : w36.cell? ⟨g01, 1, none⟩ = some (.int .i64 0) := (Zai K01.out 1).trans rfl
  have hfs38 := Zae K01.out 1
  have hns38_1 := N09_01.out
  have hms38_1 := N01_09.out
  have hs39 : w36.cell? ⟨g01, 2, none⟩ = some (.slice none 0 0) := (Zai K01.out 2).trans rfl
  have hfs39 := Zae K01.out 2
  have hns39_1 := N09_01.out
  have hms39_1 := N01_09.out
  refine skip_ (w1 := ?_) (by rfl) rfl ?_ ?_
  rotate_left
  ·go_simp
   rfl
  refine hK.out _ _ ⟨((Zbu (p := ⟨g01, _, none⟩) N09_01.out _).trans (((Zbu (p := ⟨g01, _, none⟩) N09_01.out _).trans (((Zbu (p := ⟨g01, _, none⟩) N09_01.out _).trans (hHeld.1)))))), ((Zbu (p := ⟨g01, _, none⟩) N09_01.out _).trans (((Zbu (p := ⟨g01, _, none⟩) N09_01.out _).trans (((Zbu (p := ⟨g01, _, none⟩) N09_01.out _).trans (hHeld.2.1)))))), ((Zbu (p := ⟨g01, _, none⟩) N09_01.out _).trans (((Zbu (p := ⟨g01, _, none⟩) N09_01.out _).trans (((Zbu (p := ⟨g01, _, none⟩) N09_01.out _).trans (hHeld.2.2))))))⟩ (fun hHeld => ?_)
  clear hK K
  refine pure_ (i := 12) (N := some 5) (v := ?_) (a' := ?_) #[true, true, true, true, true, true, true, true, true, true, true, true, true, false] rfl rfl (Zb5 HT_.out (by kernel_rfl)) (fun _ _ _ h => h) (Or.inl ⟨by rfl, ?_⟩) ?_ ?_
  rotate_left
  ·intro w'
   go_simp
   with_reducible rfl
  rotate_left
  ·simp only [Act.put, List.setIfInBounds_toArray, List.set_cons_zero, List.set_cons_succ, i64_w, i32_w]
   rfl
  refine pure_ (i := 13) (N := some 6) (v := ?_) (a' := ?_) #[true, true, true, true, true, true, true, true, true, true, true, true, true, true] rfl rfl (Zb5 HT_.out (by kernel_rfl)) (fun _ _ _ h => h) (Or.inl ⟨by rfl, ?_⟩) ?_ ?_
  rotate_left
  ·intro w'
   go_simp
   with_reducible rfl
  rotate_left
  ·simp only [Act.put, List.setIfInBounds_toArray, List.set_cons_zero, List.set_cons_succ, i64_w, i32_w]
   rfl
  refine done_ (Ze4 HT_.out (by kernel_rfl)) ?_
  try go_wp2
  refine bodyPost_ret (Zd7 rfl _ _ g01 52 #[.int .i64 t102, .int .i64 t103, .slice Ao34 t104.length co34] (0, 0) _ rfl (by (with_reducible repeat (first | refine Zag ?_ _ | refine Zaj ?_ | refine Zaf ?_ _)); refine Za1 (cs := #[.int .i64 t102, .int .i64 t103, .slice none 0 0]) ?_ 2 _ rfl; (with_reducible repeat (first | refine Zag ?_ _ | refine Zaj ?_ | refine Zaf ?_ _)); refine Za1 (cs := #[.int .i64 t102, .int .i64 0, .slice none 0 0]) ?_ 1 _ rfl; (with_reducible repeat (first | refine Zag ?_ _ | refine Zaj ?_ | refine Zaf ?_ _)); refine Za1 (cs := #[.int .i64 0, .int .i64 0, .slice none 0 0]) ?_ 0 _ rfl; (with_reducible repeat (first | refine Zag ?_ _ | refine Zaj ?_ | refine Zaf ?_ _)); exact K01.out) Tryz.underlying52 rfl (by kernel_rfl)) rfl ?_
  exact ⟨_, by first | rfl | (simp [Zao, Zan] <;> rfl) | (simp [*, Zao, Zan] <;> rfl), by (with_reducible repeat (first | apply Kd.R_alloc | apply Kd.R_drewN | apply Kd.R_drew)); exact Kd.R_mono (Kd.R_far (p := ⟨g01, 2, none⟩) (Kd.R_far (p := ⟨g01, 1, none⟩) (Kd.R_far (p := ⟨g01, 0, none⟩) (Kd.R_types HO106.out K01.out (by decide)) (fun _ hk => hk.2) (.int .i64 t102)) (fun _ hk => hk.2) (.int .i64 t103)) (fun _ hk => hk.2) (.slice Ao34 t104.length co34)) (fun _ hk => trivial), by repeat (first | (with_reducible first | exact HB.out | apply Zac | apply Zaa | apply Zab | refine Zah ?_ E01.out | refine Zah ?_ E09.out) | exact HB.out)⟩
def Zb6.l0 : Nat → ByteArray → Int → Int → Int → List Int → Option (ByteArray)
 | 0, _, _, _, _, _ => none
 | k + 1, x3, x4, X020, X021, X022 => if x4 < X021 then (if x4 > 0 then (if x3.size + 1 ≤ 9223372036854775807 then (if 0 ≤ (wrap64 (x4 * X020)) then (if (wrap64 (x4 * X020)) ≤ (wrap64 ((wrap64 (x4 + 1)) * X020)) then (if (wrap64 ((wrap64 (x4 + 1)) * X020)) ≤ (X022.length : Int) then (if (x3 ++ (⟨#[47]⟩ : ByteArray)).size + (strOfNums ((X022.take ((wrap64 ((wrap64 (x4 + 1)) * X020)) : Int).toNat).drop ((wrap64 (x4 * X020)) : Int).toNat)).size ≤ 9223372036854775807 then (Zb6.l0 k ((x3 ++ (⟨#[47]⟩ : ByteArray)) ++ (strOfNums ((X022.take ((wrap64 ((wrap64 (x4 + 1)) * X020)) : Int).toNat).drop ((wrap64 (x4 * X020)) : Int).toNat))) (wrap64 (x4 + 1)) X020 X021 X022) else (none)) else (none)) else (none)) else (none)) else (none)) else (if 0 ≤ (wrap64 (x4 * X020)) then (if (wrap64 (x4 * X020)) ≤ (wrap64 ((wrap64 (x4 + 1)) * X020)) then (if (wrap64 ((wrap64 (x4 + 1)) * X020)) ≤ (X022.length : Int) then (if x3.size + (strOfNums ((X022.take ((wrap64 ((wrap64 (x4 + 1)) * X020)) : Int).toNat).drop ((wrap64 (x4 * X020)) : Int).toNat)).size ≤ 9223372036854775807 then (Zb6.l0 k (x3 ++ (strOfNums ((X022.take ((wrap64 ((wrap64 (x4 + 1)) * X020)) : Int).toNat).drop ((wrap64 (x4 * X020)) : Int).toNat))) (wrap64 (x4 + 1)) X020 X021 X022) else (none)) else (none)) else (none)) else (none))) else (some x3)
def Zb6.f (k : Nat) (a0_0 : Int) (a0_1 : Int) (l0_2 : List Int) : Option (ByteArray) := Zb6.l0 k (⟨#[]⟩ : ByteArray) 0 a0_0 a0_1 l0_2
set_option maxHeartbeats 8000000 in
set_option maxRecDepth 100000 in
theorem Zb6.calls (k : Nat) (a0_0 : Int) (a0_1 : Int) (A0_2 : Option Addr) (c0_2 : Nat) (l0_2 : List Int) (r : ByteArray) (w : World) (hr0_2 : Kd.C (Kd.int .u8) w A0_2 l0_2.length l0_2) (hc0_2 : l0_2.length ≤ c0_2) (h : Zb6.f k a0_0 a0_1 l0_2 = some r) :
  Calls Tryz.prog 66 #[.agg #[.int .i64 a0_0, .int .i64 a0_1, .slice A0_2 l0_2.length c0_2]] w fun e w' => e = .returned (.string r) ∧ Below w.heap.size w w' := by
 have hu52 := Tryz.underlying52
 have HR0_2 := Zad.mk hr0_2
 have HC0_2 := Zad.mk hc0_2
 clear hr0_2 hc0_2
 have HB := Zad.mk (Below.refl w.heap.size w)
 have H : (Zb6.l0 k (⟨#[]⟩ : ByteArray) 0 a0_0 a0_1 l0_2) = some r := h
 clear h
 have H' := Zad.mk H
 clear H
 go_enter Tryz.func66, Tryz.ntmps66
 go_wp2_with (first | ((with_reducible refine Zay (N := 1) rfl ?_); refine Zaz ?hg (N := 1) ?hd (cs := #[.int .i64 a0_0, .int .i64 a0_1, .slice A0_2 l0_2.length c0_2]) (t := 52) ?hr ?_; (case hd => rfl); (case hg => rfl); (case hr => first | (go_simp; done) | (go_simp; rfl)); intro g01 hg w2 hbox hb; have n0_ := Zad.mk (Zal (by with_reducible repeat first | exact HB.out | apply Zac | apply Zaa | apply Zab) hb); have n1_ := Zad.mk (hbox); have n2_ := Zad.mk ((by rw [hg]; exact (Zak (by with_reducible repeat first | exact HB.out | apply Zac | apply Zaa | apply Zab)) : w.heap.size ≤ g01)); have n3_ := n2_; clear HB; have HB := n0_; have K01 := n1_; have W01 := n2_; have E01 := n3_; clear hb hbox hg))
 go_loopg [3, 4] k (fun kq v3 v4 w' => ∃ (x3_1 : ByteArray) (x4_1 : Int), v3 = .string x3_1 ∧ v4 = .int .i64 x4_1 ∧ Zad (Zb6.l0 kq x3_1 x4_1 a0_0 a0_1 l0_2 = some r) ∧ Zad (kq ≤ k) ∧ Zad (w'.heap[g01]? = some (.cells #[.int .i64 a0_0, .int .i64 a0_1, (.slice A0_2 l0_2.length c0_2)] 52 (0, 0))) ∧ Zad (Below w.heap.size w w'))
 case atStart => exact ⟨((⟨#[]⟩ : ByteArray)), (0), (by first | rfl | (simp; done) | (simp [*]; done)), (by first | rfl | (simp; done) | (simp [*]; done)), H', ⟨Nat.le_refl _⟩, ⟨by (with_reducible repeat (first | refine Zag ?_ _ | refine Zaj ?_ | refine Zaf ?_ _)); exact K01.out⟩, ⟨by with_reducible repeat first | exact HB.out | apply Zac | apply Zaa | apply Zab | refine Zah ?_ E01.out⟩⟩
 case round =>
  clear H'
  obtain ⟨x3_1, x4_1, rfl, rfl, HA, HK1, K01, HB⟩ := hrel
  cases gk with
  | zero => exact absurd HA.out (by simp [Zb6.l0])
  | succ k1 =>
   have H := HA.out
   clear HA
   simp only [Zb6.l0] at H
   by_cases c3 : x4_1 < a0_1
   ·rw [if_pos c3] at H
    have c3b0 : decide (x4_1 < a0_1) = true := decide_eq_true c3
    clear c3
    by_cases c4 : x4_1 > 0
    ·rw [if_pos c4] at H
     have c4b0 : decide (0 < x4_1) = true := decide_eq_true c4
     clear c4
     by_cases c5 : x3_1.size + 1 ≤ 9223372036854775807
     ·rw [if_pos c5] at H
      have c5b0 := eq_true c5
      have c5b1 : decide (x3_1.size + 1 ≤ 9223372036854775807) = true := decide_eq_true c5
      try have c5b2 : (9223372036854775807 < x3_1.size + 1) = False := eq_false (Nat.not_lt.2 c5)
      obtain ⟨ji6, hji6⟩ : ∃ j_ : Int, (wrap64 (x4_1 * a0_0)) = j_ := ⟨_, rfl⟩
      replace H : (if 0 ≤ (ji6) then (if (ji6) ≤ (wrap64 ((wrap64 (x4_1 + 1)) * a0_0)) then (if (wrap64 ((wrap64 (x4_1 + 1)) * a0_0)) ≤ (l0_2.length : Int) then (if (x3_1 ++ (⟨#[47]⟩ : ByteArray)).size + (strOfNums ((l0_2.take ((wrap64 ((wrap64 (x4_1 + 1)) * a0_0)) : Int).toNat).drop ((ji6) : Int).toNat)).size ≤ 9223372036854775807 then (Zb6.l0 k1 ((x3_1 ++ (⟨#[47]⟩ : ByteArray)) ++ (strOfNums ((l0_2.take ((wrap64 ((wrap64 (x4_1 + 1)) * a0_0)) : Int).toNat).drop ((ji6) : Int).toNat))) (wrap64 (x4_1 + 1)) a0_0 a0_1 l0_2) else (none)) else (none)) else (none)) else (none)) = some r := by first | (rw [hji6] at H; exact H) | (simp only [hji6] at H ⊢; exact H)
      have hji6w : (IntKind.i64.wrap (x4_1 * a0_0)) = ji6 := (i64_w _).trans hji6
      by_cases c7 : 0 ≤ (ji6)
      ·rw [if_pos c7] at H
       have c7b0 := eq_true c7
       have c7b1 : decide (0 ≤ (ji6)) = true := decide_eq_true c7
       clear c7
       by_cases c8 : (ji6) ≤ (wrap64 ((wrap64 (x4_1 + 1)) * a0_0))
       ·rw [if_pos c8] at H
        have c8b0 := eq_true c8
        have c8b1 : decide ((ji6) ≤ (wrap64 ((wrap64 (x4_1 + 1)) * a0_0))) = true := decide_eq_true c8
        by_cases c9 : (wrap64 ((wrap64 (x4_1 + 1)) * a0_0)) ≤ (l0_2.length : Int)
        ·rw [if_pos c9] at H
         have c9b0 := eq_true c9
         have c9b1 : decide ((wrap64 ((wrap64 (x4_1 + 1)) * a0_0)) ≤ (l0_2.length : Int)) = true := decide_eq_true c9
         by_cases c10 : (x3_1 ++ (⟨#[47]⟩ : ByteArray)).size + (strOfNums ((l0_2.take ((wrap64 ((wrap64 (x4_1 + 1)) * a0_0)) : Int).toNat).drop ((ji6) : Int).toNat)).size ≤ 9223372036854775807
         ·rw [if_pos c10] at H
          have c10b0 := eq_true c10
          have c10b1 : decide ((x3_1 ++ (⟨#[47]⟩ : ByteArray)).size + (strOfNums ((l0_2.take ((wrap64 ((wrap64 (x4_1 + 1)) * a0_0)) : Int).toNat).drop ((ji6) : Int).toNat)).size ≤ 9223372036854775807) = true := decide_eq_true c10
          try have c10b2 : (9223372036854775807 < (x3_1 ++ (⟨#[47]⟩ : ByteArray)).size + (strOfNums ((l0_2.take ((wrap64 ((wrap64 (x4_1 + 1)) * a0_0)) : Int).toNat).drop ((ji6) : Int).toNat)).size) = False := eq_false (Nat.not_lt.2 c10)
          have H' := Zad.mk H
          clear H
          have hcz11_0 : wr.cell? ⟨g01, 0, none⟩ = some (.int .i64 a0_0) := (Zai K01.out 0).trans rfl
          have hcz11_1 : wr.cell? ⟨g01, 1, none⟩ = some (.int .i64 a0_1) := (Zai K01.out 1).trans rfl
          have hcz11_2 : wr.cell? ⟨g01, 2, none⟩ = some (.slice A0_2 l0_2.length c0_2) := (Zai K01.out 2).trans rfl
          have hfz11_0 := Zae K01.out 0
          have hfz11_1 := Zae K01.out 1
          have hfz11_2 := Zae K01.out 2
          obtain ⟨i012, hi012, _, hsz12, _⟩ := info_parts info5
          obtain ⟨A12, hcut12, hA12, hC12⟩ := Zga (P := Tryz.prog) (Value.int .u8) 0 50 5 .i64 .i64 Tryz.underlying50 hi012 hsz12 A0_2 c0_2 l0_2 (ji6) (wrap64 ((wrap64 (x4_1 + 1)) * a0_0)) (of_decide_eq_true (by first | (with_reducible assumption) | assumption)) (by first | omega | exact of_decide_eq_true (by first | (with_reducible assumption) | assumption)) (of_decide_eq_true (by first | (with_reducible assumption) | assumption)) HC0_2.out
          have HR102 := Zad.mk (Kd.C_of_reads (h1 := fun _ => rfl) (hA12 _ (Kd.reads_of_C HR0_2.out)))
          have HC102 := Zad.mk hC12
          clear hA12 hC12 hi012 hsz12
          have hcv13 := (by have q_ := Kd.C_string (P := Tryz.prog) (A := A12) (c := (c0_2 - (ji6).toNat)) Tryz.underlying50 Tryz.underlying5 Tryz.underlying9 (Kd.C_below HR102.out HB.out); rw [show ((l0_2.take ((wrap64 ((wrap64 (x4_1 + 1)) * a0_0)) : Int).toNat).drop ((ji6) : Int).toNat).length = ((wrap64 ((wrap64 (x4_1 + 1)) * a0_0)).toNat - (ji6).toNat) from (by rw [List.length_drop, List.length_take]; have h_ : ((wrap64 ((wrap64 (x4_1 + 1)) * a0_0)) : Int) ≤ (l0_2.length : Int) := of_decide_eq_true (by first | (with_reducible assumption) | assumption); omega)] at q_; exact q_ : _)
          go_wp2
          go_roundg k1
          case measure => have := HK1.out; omega
          case rel => exact ⟨((x3_1 ++ (⟨#[47]⟩ : ByteArray)) ++ (strOfNums ((l0_2.take ((wrap64 ((wrap64 (x4_1 + 1)) * a0_0)) : Int).toNat).drop ((ji6) : Int).toNat))), (wrap64 (x4_1 + 1)), (by first | rfl | (simp; done) | (simp only [← hji6] <;> (first | rfl | simp)) | (simp [*]; done)), (by first | rfl | (simp; done) | (simp [*]; done)), H', ⟨by have := HK1.out; omega⟩, ⟨by (with_reducible repeat (first | refine Zag ?_ _ | refine Zaj ?_ | refine Zaf ?_ _)); exact K01.out⟩, ⟨by with_reducible repeat first | exact HB.out | apply Zac | apply Zaa | apply Zab | refine Zah ?_ E01.out⟩⟩
         ·rw [if_neg c10] at H
          exact absurd H (by simp)
        ·rw [if_neg c9] at H
         exact absurd H (by simp)
       ·rw [if_neg c8] at H
        exact absurd H (by simp)
      ·rw [if_neg c7] at H
       exact absurd H (by simp)
     ·rw [if_neg c5] at H
      exact absurd H (by simp)
    ·rw [if_neg c4] at H
     have c4b0 : decide (0 < x4_1) = false := decide_eq_false c4
     clear c4
     obtain ⟨ji14, hji14⟩ : ∃ j_ : Int, (wrap64 (x4_1 * a0_0)) = j_ := ⟨_, rfl⟩
     replace H : (if 0 ≤ (ji14) then (if (ji14) ≤ (wrap64 ((wrap64 (x4_1 + 1)) * a0_0)) then (if (wrap64 ((wrap64 (x4_1 + 1)) * a0_0)) ≤ (l0_2.length : Int) then (if x3_1.size + (strOfNums ((l0_2.take ((wrap64 ((wrap64 (x4_1 + 1)) * a0_0)) : Int).toNat).drop ((ji14) : Int).toNat)).size ≤ 9223372036854775807 then (Zb6.l0 k1 (x3_1 ++ (strOfNums ((l0_2.take ((wrap64 ((wrap64 (x4_1 + 1)) * a0_0)) : Int).toNat).drop ((ji14) : Int).toNat))) (wrap64 (x4_1 + 1)) a0_0 a0_1 l0_2) else (none)) else (none)) else (none)) else (none)) = some r := by first | (rw [hji14] at H; exact H) | (simp only [hji14] at H ⊢; exact H)
     have hji14w : (IntKind.i64.wrap (x4_1 * a0_0)) = ji14 := (i64_w _).trans hji14
     by_cases c15 : 0 ≤ (ji14)
     ·rw [if_pos c15] at H
      have c15b0 := eq_true c15
      have c15b1 : decide (0 ≤ (ji14)) = true := decide_eq_true c15
      clear c15
      by_cases c16 : (ji14) ≤ (wrap64 ((wrap64 (x4_1 + 1)) * a0_0))
      ·rw [if_pos c16] at H
       have c16b0 := eq_true c16
       have c16b1 : decide ((ji14) ≤ (wrap64 ((wrap64 (x4_1 + 1)) * a0_0))) = true := decide_eq_true c16
       by_cases c17 : (wrap64 ((wrap64 (x4_1 + 1)) * a0_0)) ≤ (l0_2.length : Int)
       ·rw [if_pos c17] at H
        have c17b0 := eq_true c17
        have c17b1 : decide ((wrap64 ((wrap64 (x4_1 + 1)) * a0_0)) ≤ (l0_2.length : Int)) = true := decide_eq_true c17
        by_cases c18 : x3_1.size + (strOfNums ((l0_2.take ((wrap64 ((wrap64 (x4_1 + 1)) * a0_0)) : Int).toNat).drop ((ji14) : Int).toNat)).size ≤ 9223372036854775807
        ·rw [if_pos c18] at H
         have c18b0 := eq_true c18
         have c18b1 : decide (x3_1.size + (strOfNums ((l0_2.take ((wrap64 ((wrap64 (x4_1 + 1)) * a0_0)) : Int).toNat).drop ((ji14) : Int).toNat)).size ≤ 9223372036854775807) = true := decide_eq_true c18
         try have c18b2 : (9223372036854775807 < x3_1.size + (strOfNums ((l0_2.take ((wrap64 ((wrap64 (x4_1 + 1)) * a0_0)) : Int).toNat).drop ((ji14) : Int).toNat)).size) = False := eq_false (Nat.not_lt.2 c18)
         have H' := Zad.mk H
         clear H
         have hcz19_0 : wr.cell? ⟨g01, 0, none⟩ = some (.int .i64 a0_0) := (Zai K01.out 0).trans rfl
         have hcz19_1 : wr.cell? ⟨g01, 1, none⟩ = some (.int .i64 a0_1) := (Zai K01.out 1).trans rfl
         have hcz19_2 : wr.cell? ⟨g01, 2, none⟩ = some (.slice A0_2 l0_2.length c0_2) := (Zai K01.out 2).trans rfl
         have hfz19_0 := Zae K01.out 0
         have hfz19_1 := Zae K01.out 1
         have hfz19_2 := Zae K01.out 2
         obtain ⟨i020, hi020, _, hsz20, _⟩ := info_parts info5
         obtain ⟨A20, hcut20, hA20, hC20⟩ := Zga (P := Tryz.prog) (Value.int .u8) 0 50 5 .i64 .i64 Tryz.underlying50 hi020 hsz20 A0_2 c0_2 l0_2 (ji14) (wrap64 ((wrap64 (x4_1 + 1)) * a0_0)) (of_decide_eq_true (by first | (with_reducible assumption) | assumption)) (by first | omega | exact of_decide_eq_true (by first | (with_reducible assumption) | assumption)) (of_decide_eq_true (by first | (with_reducible assumption) | assumption)) HC0_2.out
         have HR103 := Zad.mk (Kd.C_of_reads (h1 := fun _ => rfl) (hA20 _ (Kd.reads_of_C HR0_2.out)))
         have HC103 := Zad.mk hC20
         clear hA20 hC20 hi020 hsz20
         have hcv21 := (by have q_ := Kd.C_string (P := Tryz.prog) (A := A20) (c := (c0_2 - (ji14).toNat)) Tryz.underlying50 Tryz.underlying5 Tryz.underlying9 (Kd.C_below HR103.out HB.out); rw [show ((l0_2.take ((wrap64 ((wrap64 (x4_1 + 1)) * a0_0)) : Int).toNat).drop ((ji14) : Int).toNat).length = ((wrap64 ((wrap64 (x4_1 + 1)) * a0_0)).toNat - (ji14).toNat) from (by rw [List.length_drop, List.length_take]; have h_ : ((wrap64 ((wrap64 (x4_1 + 1)) * a0_0)) : Int) ≤ (l0_2.length : Int) := of_decide_eq_true (by first | (with_reducible assumption) | assumption); omega)] at q_; exact q_ : _)
         go_wp2
         go_roundg k1
         case measure => have := HK1.out; omega
         case rel => exact ⟨(x3_1 ++ (strOfNums ((l0_2.take ((wrap64 ((wrap64 (x4_1 + 1)) * a0_0)) : Int).toNat).drop ((ji14) : Int).toNat))), (wrap64 (x4_1 + 1)), (by first | rfl | (simp; done) | (simp only [← hji14] <;> (first | rfl | simp)) | (simp [*]; done)), (by first | rfl | (simp; done) | (simp [*]; done)), H', ⟨by have := HK1.out; omega⟩, ⟨by (with_reducible repeat (first | refine Zag ?_ _ | refine Zaj ?_ | refine Zaf ?_ _)); exact K01.out⟩, ⟨by with_reducible repeat first | exact HB.out | apply Zac | apply Zaa | apply Zab | refine Zah ?_ E01.out⟩⟩
        ·rw [if_neg c18] at H
         exact absurd H (by simp)
       ·rw [if_neg c17] at H
        exact absurd H (by simp)
      ·rw [if_neg c16] at H
       exact absurd H (by simp)
     ·rw [if_neg c15] at H
      exact absurd H (by simp)
   ·rw [if_neg c3] at H
    have c3b0 : decide (x4_1 < a0_1) = false := decide_eq_false c3
    clear c3
    obtain rfl := Option.some.inj H
    have hcz22_0 : wr.cell? ⟨g01, 0, none⟩ = some (.int .i64 a0_0) := (Zai K01.out 0).trans rfl
    have hcz22_1 : wr.cell? ⟨g01, 1, none⟩ = some (.int .i64 a0_1) := (Zai K01.out 1).trans rfl
    have hcz22_2 : wr.cell? ⟨g01, 2, none⟩ = some (.slice A0_2 l0_2.length c0_2) := (Zai K01.out 2).trans rfl
    have hfz22_0 := Zae K01.out 0
    have hfz22_1 := Zae K01.out 1
    have hfz22_2 := Zae K01.out 2
    go_wp2
    go_ret
    exact ⟨by first | rfl | (simp [Zao, Zan] <;> rfl) | (simp [*, Zao, Zan] <;> rfl), by repeat (first | (with_reducible first | exact HB.out | apply Zac | apply Zaa | apply Zab | refine Zah ?_ E01.out) | exact HB.out)⟩
def Zcj.f (a0_0 : Int) (a0_1 : Int) (l0_2 : List Int) : Option (Int × Int × List Int) := (some (([] : List Int) : List Int)).bind fun y103 => (if y103.length + l0_2.length < 140737488355328 then (some (a0_0, a0_1, (y103 ++ l0_2))) else (none))
def Zcj.T1 : Bool × List (List Nat × List Nat) := (true, [([], []), ([0], [0]), ([], []), ([2], [2]), ([], []), ([], []), ([5], [5]), ([4, 6], [4, 6]), ([1, 3, 7], [1, 3, 7]), ([8, 7, 0, 1, 2, 3, 4, 5, 6, 7, 8], [8])])
def Zcj.B1 : List Nat := [0, 1, 0, 4, 0, 0, 32, 112, 255, 511]
theorem Zcj.tab1 : rtab .any (opsOf Tryz.f89 1) = Zcj.T1 := by kernel_rfl
theorem Zcj.bits1 : Zec Zcj.T1.2 Zcj.B1 = true := by kernel_rfl
set_option maxHeartbeats 8000000 in
set_option maxRecDepth 100000 in
theorem Zcj.calls (a0_0 : Int) (a0_1 : Int) (A0_2 : Option Addr) (c0_2 : Nat) (l0_2 : List Int) (r1 : Int) (r2 : Int) (r3 : List Int) (w : World) (hr0_2 : Kd.C (Kd.int .u8) w A0_2 l0_2.length l0_2) (hc0_2 : l0_2.length ≤ c0_2) (h : Zcj.f a0_0 a0_1 l0_2 = some (r1, r2, r3)) :
  Calls Tryz.prog 89 #[.agg #[.int .i64 a0_0, .int .i64 a0_1, .slice A0_2 l0_2.length c0_2]] w fun e w' => ∃ v2_ : Value, e = .returned (.agg #[.int .i64 r1, .int .i64 r2, v2_]) ∧ Kd.R (Kd.int .u8) 5 w' w.heap.size (fun _ => True) v2_ r3 ∧ Below w.heap.size w w' := by
 have hu52 := Tryz.underlying52
 have HR0_2 := Zad.mk hr0_2
 have HC0_2 := Zad.mk hc0_2
 clear hr0_2 hc0_2
 have HB := Zad.mk (Below.refl w.heap.size w)
 have H : ((some (([] : List Int) : List Int)).bind fun y103 => (if y103.length + l0_2.length < 140737488355328 then (some (a0_0, a0_1, (y103 ++ l0_2))) else (none))) = some (r1, r2, r3) := h
 clear h
 obtain ⟨y103, hy103⟩ : ∃ y_ : List Int, y_ = (([] : List Int)) := ⟨_, rfl⟩
 replace H : (if y103.length + l0_2.length < 140737488355328 then (some (a0_0, a0_1, (y103 ++ l0_2))) else (none)) = some (r1, r2, r3) := by first | (rw [hy103]; with_reducible exact H) | (have H2_ := (Option.bind_some _ _).symm.trans H; rw [hy103]; with_reducible exact H2_) | (have H2_ := (Option.bind_some _ _).symm.trans H; with_reducible exact H2_) | with_reducible exact H | (rw [hy103]; exact H) | exact H
 have Ny103 := Zad.mk hy103
 clear hy103
 by_cases c2 : y103.length + l0_2.length < 140737488355328
 ·rw [if_pos c2] at H
  have LMc2 := Zad.mk c2
  clear c2
  obtain ⟨y106, hy106⟩ : ∃ y_ : List Int, y_ = (y103 ++ l0_2) := ⟨_, rfl⟩
  replace H : (some (a0_0, a0_1, y106)) = some (r1, r2, r3) := by first | (rw [hy106]; with_reducible exact H) | (have H2_ := (Option.bind_some _ _).symm.trans H; rw [hy106]; with_reducible exact H2_) | (have H2_ := (Option.bind_some _ _).symm.trans H; with_reducible exact H2_) | with_reducible exact H | (rw [hy106]; exact H) | exact H
  have Ny106 := Zad.mk hy106
  clear hy106
  simp only [Option.some.injEq, Prod.mk.injEq] at H
  obtain ⟨rfl, rfl, rfl⟩ := H
  go_enter Tryz.func89, Tryz.ntmps89
  try go_wp2_with (first | ((with_reducible refine Zay (N := 1) rfl ?_); refine Zaz ?hg (N := 1) ?hd (cs := #[.int .i64 a0_0, .int .i64 a0_1, .slice A0_2 l0_2.length c0_2]) (t := 52) ?hr ?_; (case hd => rfl); (case hg => rfl); (case hr => first | (go_simp; done) | (go_simp; rfl)); intro g01 hg w3 hbox hb; have n0_ := Zad.mk (Zal (by with_reducible repeat first | exact HB.out | apply Zac | apply Zaa | apply Zab) hb); have n1_ := Zad.mk (hbox); have n2_ := Zad.mk ((by rw [hg]; exact (Zak (by with_reducible repeat first | exact HB.out | apply Zac | apply Zaa | apply Zab)) : w.heap.size ≤ g01)); have n3_ := n2_; clear HB; have HB := n0_; have K01 := n1_; have W01 := n2_; have E01 := n3_; clear hb hbox hg) | ((with_reducible refine Zay (N := 2) rfl ?_); refine Zaz ?hg (N := 2) ?hd (cs := #[.int .i64 0, .int .i64 0, .slice none 0 0]) (t := 52) ?hr ?_; (case hd => rfl); (case hg => rfl); (case hr => first | (go_simp; done) | (go_simp; rfl)); intro g02 hg w4 hbox hb; have n0_ := Zad.mk (Zav (g := g01) (o := .cells #[.int .i64 a0_0, .int .i64 a0_1, .slice A0_2 l0_2.length c0_2] 52 (0, 0)) (by (with_reducible repeat (first | refine Zag ?_ _ | refine Zaj ?_ | refine Zaf ?_ _)); exact K01.out) hb); have n1_ := Zad.mk (Zal (by with_reducible repeat first | exact HB.out | apply Zac | apply Zaa | apply Zab | refine Zah ?_ E01.out) hb); have n2_ := Zad.mk (hbox); have n3_ := Zad.mk ((by rw [hg]; exact (Zak (by with_reducible repeat first | exact HB.out | apply Zac | apply Zaa | apply Zab | refine Zah ?_ E01.out)) : w.heap.size ≤ g02)); have n4_ := n3_; have n5_ := Zad.mk ((by rw [hg]; exact Nat.ne_of_lt (Zct (g := g01) (o := .cells #[.int .i64 a0_0, .int .i64 a0_1, .slice A0_2 l0_2.length c0_2] 52 (0, 0)) (by (with_reducible repeat (first | refine Zag ?_ _ | refine Zaj ?_ | refine Zaf ?_ _)); exact K01.out)) : g01 ≠ g02)); have n6_ := Zad.mk ((by rw [hg]; exact Nat.ne_of_gt (Zct (g := g01) (o := .cells #[.int .i64 a0_0, .int .i64 a0_1, .slice A0_2 l0_2.length c0_2] 52 (0, 0)) (by (with_reducible repeat (first | refine Zag ?_ _ | refine Zaj ?_ | refine Zaf ?_ _)); exact K01.out)) : g02 ≠ g01)); clear K01; clear HB; have K01 := n0_; have HB := n1_; have K02 := n2_; have W02 := n3_; have E02 := n4_; have N01_02 := n5_; have N02_01 := n6_; clear hb hbox hg))
  have n0_ := Zad.mk (Zaj K01.out)
  have n1_ := Zad.mk (Zaj K02.out)
  have n2_ := Zad.mk (Zab HB.out)
  clear K01
  clear K02
  clear HB
  have K01 := n0_
  have K02 := n1_
  have HB := n2_
  clear n0_ n1_ n2_
  refine Zfe (n := 10) (S := fun w' => w'.cell? ⟨g01, 0, none⟩ = some (.int .i64 a0_0) ∧ w'.cell? ⟨g01, 1, none⟩ = some (.int .i64 a0_1) ∧ w'.cell? ⟨g01, 2, none⟩ = some (.slice A0_2 l0_2.length c0_2)) (ds := []) #[false, false, false, false, false, false, false, false, false, false] (by kernel_rfl) rfl rfl ⟨(Zai K01.out 0).trans rfl, (Zai K01.out 1).trans rfl, (Zai K01.out 2).trans rfl⟩ (fun hHeld => ?_); refine Zdv Zcj.tab1 Zcj.bits1 (fun HT_ HW_ => ?_)
  generalize w4.drew = w5 at K01 K02 HB hHeld ⊢
  refine pure_ (i := 0) (N := some 3) (v := ?_) (a' := ?_) #[true, false, false, false, false, false, false, false, false, false] rfl rfl (Zb5 HT_.out (by kernel_rfl)) (fun _ _ _ h => h) (Or.inl ⟨by rfl, ?_⟩) ?_ ?_
  rotate_left
  ·intro w'
   go_simp
   with_reducible rfl
  rotate_left
  ·simp only [Act.put, List.setIfInBounds_toArray, List.set_cons_zero, List.set_cons_succ, i64_w, i32_w]
   rfl
  refine pure_ (i := 2) (N := some 5) (v := ?_) (a' := ?_) #[true, false, true, false, false, false, false, false, false, false] rfl rfl (Zb5 HT_.out (by kernel_rfl)) (fun _ _ _ h => h) (Or.inl ⟨by rfl, ?_⟩) ?_ ?_
  rotate_left
  ·intro w'
   go_simp
   with_reducible rfl
  rotate_left
  ·simp only [Act.put, List.setIfInBounds_toArray, List.set_cons_zero, List.set_cons_succ, i64_w, i32_w]
   rfl
  refine pure_ (i := 5) (N := some 8) (v := ?_) (a' := ?_) #[true, false, true, false, false, true, false, false, false, false] rfl rfl (Zb5 HT_.out (by kernel_rfl)) (fun _ _ _ h => h) (Or.inl ⟨by rfl, ?_⟩) ?_ ?_
  rotate_left
  ·intro w'
   go_simp
   with_reducible rfl
  rotate_left
  ·simp only [Act.put, List.setIfInBounds_toArray, List.set_cons_zero, List.set_cons_succ, i64_w, i32_w]
   rfl
  refine take_ (i := 1) (N := some 4) (v := ?_) (a' := ?_) #[true, true, true, false, false, true, false, false, false, false] rfl rfl (Zdb HT_.out HW_.out (by kernel_rfl)) (fun _ _ _ h => h) (Or.inl ⟨by rfl, ?_⟩) hHeld ?_ ?_
  rotate_left
  ·rintro w' ⟨s0, s1, s2⟩
   go_simp
   with_reducible rfl
  rotate_left
  ·simp only [Act.put, List.setIfInBounds_toArray, List.set_cons_zero, List.set_cons_succ, i64_w, i32_w]
   rfl
  refine take_ (i := 3) (N := some 6) (v := ?_) (a' := ?_) #[true, true, true, true, false, true, false, false, false, false] rfl rfl (Zdb HT_.out HW_.out (by kernel_rfl)) (fun _ _ _ h => h) (Or.inl ⟨by rfl, ?_⟩) hHeld ?_ ?_
  rotate_left
  ·rintro w' ⟨s0, s1, s2⟩
   go_simp
   with_reducible rfl
  rotate_left
  ·simp only [Act.put, List.setIfInBounds_toArray, List.set_cons_zero, List.set_cons_succ, i64_w, i32_w]
   rfl
  refine take_ (i := 6) (N := some 9) (v := ?_) (a' := ?_) #[true, true, true, true, false, true, true, false, false, false] rfl rfl (Zdb HT_.out HW_.out (by kernel_rfl)) (fun _ _ _ h => h) (Or.inl ⟨by rfl, ?_⟩) hHeld ?_ ?_
  rotate_left
  ·rintro w' ⟨s0, s1, s2⟩
   go_simp
   with_reducible rfl
  rotate_left
  ·simp only [Act.put, List.setIfInBounds_toArray, List.set_cons_zero, List.set_cons_succ, i64_w, i32_w]
   rfl
  refine one_ (i := 4) (N := some 7) #[true, true, true, true, true, true, true, false, false, false] rfl rfl (Zd0 HT_.out (by kernel_rfl)) (by decide) (fun K hK => ?_)
  refine Kd.R_lit_step (Kd.int .u8) _ 5 ?hg (N := 7) ?hd (xs := ([] : List Int)) (inner := []) (ok := fun _ => True) (okp := fun _ => True) ?hr ?hp (fun _ hk => hk) trivial (Below.refl _ _) (Nat.le_refl _) (by simp) ?_; (case hd => rfl); (case hg => rfl); (case hr => first | (go_simp; done) | (go_simp; rfl)); (case hp => exact (Reps.none _ _))
  intro v104 w6 ho7 hb hg_ hnew_
  clear hg_ hnew_
  (first | rw [← Ny103.out] at ho7 | (simp only [Int.reduceToNat] at ho7; rw [← Ny103.out] at ho7))
  have n0_ := Zad.mk (Kd.R_lower ho7 (Zak (by with_reducible repeat first | exact HB.out | apply Zac | apply Zaa | apply Zab | refine Zah ?_ E01.out | refine Zah ?_ E02.out)))
  have n1_ := Zad.mk (Zav (g := g01) (o := .cells #[.int .i64 a0_0, .int .i64 a0_1, .slice A0_2 l0_2.length c0_2] 52 (0, 0)) (by (with_reducible repeat (first | refine Zag ?_ _ | refine Zaj ?_ | refine Zaf ?_ _)); exact K01.out) hb)
  have n2_ := Zad.mk (Zav (g := g02) (o := .cells #[.int .i64 0, .int .i64 0, .slice none 0 0] 52 (0, 0)) (by (with_reducible repeat (first | refine Zag ?_ _ | refine Zaj ?_ | refine Zaf ?_ _)); exact K02.out) hb)
  have n3_ := Zad.mk (Zal (by with_reducible repeat first | exact HB.out | apply Zac | apply Zaa | apply Zab | refine Zah ?_ E01.out | refine Zah ?_ E02.out) hb)
  clear K01
  clear K02
  clear HB
  have HO105 := n0_
  have K01 := n1_
  have K02 := n2_
  have HB := n3_
  clear n0_ n1_ n2_ n3_
  clear hb ho7
  refine hK.out _ _ ⟨(Zai K01.out 0).trans rfl, (Zai K01.out 1).trans rfl, (Zai K01.out 2).trans rfl⟩ (fun hHeld => ?_)
  clear hK K
  refine norm_ (a' := ?_) ?_ ?_
  rotate_left
  ·show Act.put _ (some 7) _ = _
   simp only [Act.put, List.setIfInBounds_toArray, List.set_cons_zero, List.set_cons_succ, i64_w, i32_w]
   rfl
  refine one_ (i := 7) (N := some 10) #[true, true, true, true, true, true, true, true, false, false] rfl rfl (Zd0 HT_.out (by kernel_rfl)) (by decide) (fun K hK => ?_)
  refine Kd.R_append_rows_step (Kd.int .u8) (w0 := w) w.heap.size (by rfl) (.tmp 7) (.tmp 9) 50 5 (.int .u8 0) 1 rfl Tryz.underlying50 info5 rfl (by decide) (by omega) v104 y103 l0_2 _ _ _ (fun _ => True) (fun _ => False) rfl rfl ?aO ?aR (fun _ _ h => h) (fun _ h => h.elim) ?aF ?aB ?aS ?aL ?_
  (case aR => repeat (first | exact (Kd.C_below HR0_2.out HB.out) | (with_reducible refine Kd.C_alloc ?_ _) | (with_reducible refine Kd.C_drewN ?_ _) | (with_reducible refine Kd.C_drew ?_)))
  (case aB => exact (by with_reducible repeat first | exact HB.out | apply Zac | apply Zaa | apply Zab | refine Zah ?_ E01.out | refine Zah ?_ E02.out))
  (case aF => exact (fun _ _ => trivial))
  (case aO => exact (by (with_reducible repeat (first | apply Kd.R_alloc | apply Kd.R_drewN | apply Kd.R_drew)); exact HO105.out))
  (case aS => exact (Zak (by with_reducible repeat first | exact HB.out | apply Zac | apply Zaa | apply Zab | refine Zah ?_ E01.out | refine Zah ?_ E02.out)))
  (case aL => have := LMc2.out; omega)
  intro v107 w8 ho hb hg hat
  rw [← Ny106.out] at ho
  have n0_ := Zad.mk (Zbf (g := g01) (o := .cells #[.int .i64 a0_0, .int .i64 a0_1, .slice A0_2 l0_2.length c0_2] 52 (0, 0)) (by (with_reducible repeat (first | refine Zag ?_ _ | refine Zaj ?_ | refine Zaf ?_ _)); exact K01.out) hg (Kd.R_ne HO105.out K01.out (by decide)))
  have n1_ := Zad.mk (Zbf (g := g02) (o := .cells #[.int .i64 0, .int .i64 0, .slice none 0 0] 52 (0, 0)) (by (with_reducible repeat (first | refine Zag ?_ _ | refine Zaj ?_ | refine Zaf ?_ _)); exact K02.out) hg (Kd.R_ne HO105.out K02.out (by decide)))
  have n2_ := Zad.mk (hb)
  have n3_ := Zad.mk (ho)
  clear K01
  clear K02
  clear HB
  clear HO105
  have K01 := n0_
  have K02 := n1_
  have HB := n2_
  have HO108 := n3_
  clear n0_ n1_ n2_ n3_
  clear ho hb hg hat
  obtain ⟨Ao9, co9, eo9⟩ := Kd.R_slice HO108.out
  (first | subst eo9 | (injection eo9 with f1_ f2_ f3_; have f4_ := f1_.symm; have f5_ := f3_.symm; clear f1_ f2_ f3_; subst f4_; subst f5_))
  refine hK.out _ _ ⟨(Zai K01.out 0).trans rfl, (Zai K01.out 1).trans rfl, (Zai K01.out 2).trans rfl⟩ (fun hHeld => ?_)
  clear hK K
  refine norm_ (a' := ?_) ?_ ?_
  rotate_left
  ·show Act.put _ (some 10) _ = _
   simp only [Act.put, List.setIfInBounds_toArray, List.set_cons_zero, List.set_cons_succ, i64_w, i32_w]
   rfl
  refine pure_ (i := 8) (N := some 11) (v := ?_) (a' := ?_) #[true, true, true, true, true, true, true, true, true, false] rfl rfl (Zb5 HT_.out (by kernel_rfl)) (fun _ _ _ h => h) (Or.inl ⟨by rfl, ?_⟩) ?_ ?_
  rotate_left
  ·intro w'
   go_simp
   with_reducible rfl
  rotate_left
  ·simp only [Act.put, List.setIfInBounds_toArray, List.set_cons_zero, List.set_cons_succ, i64_w, i32_w]
   rfl
  refine one_ (i := 9) (N := none) #[true, true, true, true, true, true, true, true, true, true] rfl rfl (Zd0 HT_.out (by kernel_rfl)) (by decide) (fun K hK => ?_)
  have hs10 : w8.cell? ⟨g02, 0, none⟩ = some (.int .i64 0) := (Zai K02.out 0).trans rfl
  have hfs10 := Zae K02.out 0
  have hns10_0 := N01_02.out
  have hms10_0 := N02_01.out
  have hs11 : w8.cell? ⟨g02, 1, none⟩ = some (.int .i64 0) := (Zai K02.out 1).trans rfl
  have hfs11 := Zae K02.out 1
  have hns11_0 := N01_02.out
  have hms11_0 := N02_01.out
  have hs12 : w8.cell? ⟨g02, 2, none⟩ = some (.slice none 0 0) := (Zai K02.out 2).trans rfl
  have hfs12 := Zae K02.out 2
  have hns12_0 := N01_02.out
  have hms12_0 := N02_01.out
  refine skip_ (w1 := ?_) (by rfl) rfl ?_ ?_
  rotate_left
  ·go_simp
   rfl
  refine hK.out _ _ ⟨((Zbu (p := ⟨g02, _, none⟩) N01_02.out _).trans (((Zbu (p := ⟨g02, _, none⟩) N01_02.out _).trans (((Zbu (p := ⟨g02, _, none⟩) N01_02.out _).trans (hHeld.1)))))), ((Zbu (p := ⟨g02, _, none⟩) N01_02.out _).trans (((Zbu (p := ⟨g02, _, none⟩) N01_02.out _).trans (((Zbu (p := ⟨g02, _, none⟩) N01_02.out _).trans (hHeld.2.1)))))), ((Zbu (p := ⟨g02, _, none⟩) N01_02.out _).trans (((Zbu (p := ⟨g02, _, none⟩) N01_02.out _).trans (((Zbu (p := ⟨g02, _, none⟩) N01_02.out _).trans (hHeld.2.2))))))⟩ (fun hHeld => ?_)
  clear hK K
  refine done_ (Ze4 HT_.out (by kernel_rfl)) ?_
  try go_wp2
  refine bodyPost_ret (results_cell_row rfl _ _ g02 52 #[.int .i64 a0_0, .int .i64 a0_1, .slice Ao9 y106.length co9] (0, 0) _ rfl (by (with_reducible repeat (first | refine Zag ?_ _ | refine Zaj ?_ | refine Zaf ?_ _)); refine Za1 (cs := #[.int .i64 a0_0, .int .i64 a0_1, .slice none 0 0]) ?_ 2 _ rfl; (with_reducible repeat (first | refine Zag ?_ _ | refine Zaj ?_ | refine Zaf ?_ _)); refine Za1 (cs := #[.int .i64 a0_0, .int .i64 0, .slice none 0 0]) ?_ 1 _ rfl; (with_reducible repeat (first | refine Zag ?_ _ | refine Zaj ?_ | refine Zaf ?_ _)); refine Za1 (cs := #[.int .i64 0, .int .i64 0, .slice none 0 0]) ?_ 0 _ rfl; (with_reducible repeat (first | refine Zag ?_ _ | refine Zaj ?_ | refine Zaf ?_ _)); exact K02.out) Tryz.underlying52 rfl (by kernel_rfl)) rfl ?_
  exact ⟨_, by first | rfl | (simp [Zao, Zan] <;> rfl) | (simp [*, Zao, Zan] <;> rfl), by (with_reducible repeat (first | apply Kd.R_alloc | apply Kd.R_drewN | apply Kd.R_drew)); exact Kd.R_mono (Kd.R_far (p := ⟨g02, 2, none⟩) (Kd.R_far (p := ⟨g02, 1, none⟩) (Kd.R_far (p := ⟨g02, 0, none⟩) (Kd.R_types HO108.out K02.out (by decide)) (fun _ hk => hk.2) (.int .i64 a0_0)) (fun _ hk => hk.2) (.int .i64 a0_1)) (fun _ hk => hk.2) (.slice Ao9 y106.length co9)) (fun _ hk => trivial), by repeat (first | (with_reducible first | exact HB.out | apply Zac | apply Zaa | apply Zab | refine Zah ?_ E01.out | refine Zah ?_ E02.out) | exact HB.out)⟩
 ·rw [if_neg c2] at H
  exact absurd H (by simp)
end Go.Proofs.YtjohcjkidoalkaaGreatDoor.PA
