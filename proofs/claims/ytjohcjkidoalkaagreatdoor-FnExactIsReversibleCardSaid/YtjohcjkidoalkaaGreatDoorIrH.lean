/- Contracts of functions and plain lemmas, for the last text. -/
import Derived.Test.YtjohcjkidoalkaaGreatDoorIrG
import Derived.RangeFuncBox
import Derived.Deep.DeepMust
set_option linter.unusedVariables false
set_option linter.unusedSimpArgs false
namespace Go.Proofs.YtjohcjkidoalkaaGreatDoor.PA
open Go.RowKit Go.PW.PrintWords Go.PW.PrintLast Go.PW.PrintMore
def bitT (n L j : Nat) : Bool := n / 2 ^ (L - 1 - j) % 2 == 1
def fillT (cells inputs : List Int) (n j : Nat) : List Int := (List.range j).foldl (fun c i => if bitT n inputs.length i = true then c.set (rd inputs i).toNat 111 else c) cells
theorem Zga (cells inputs : List Int) (n j : Nat) : fillT cells inputs n (j + 1) = if bitT n inputs.length j = true then (fillT cells inputs n j).set (rd inputs j).toNat 111 else fillT cells inputs n j := by
 simp [fillT, List.range_succ, List.foldl_append]
theorem Zc8 (cells inputs : List Int) (n : Nat) : ∀ j, (fillT cells inputs n j).length = cells.length
 | 0 => rfl
 | j + 1 => by rw [Zga]; split <;> simp [Zc8 cells inputs n j]
theorem Zi5 {n L j : Nat} {b : Bool} (h : (((n : Int) / 2 ^ (L - 1 - j)).tmod 2 == 1) = b) : bitT n L j = b := by
 unfold bitT
 have e : ((n : Int) / 2 ^ (L - 1 - j)) = ((n / 2 ^ (L - 1 - j) : Nat) : Int) := by simp
 rw [e, Int.tmod_eq_emod_of_nonneg (Int.natCast_nonneg _)] at h
 rw [← h, Bool.eq_iff_iff, beq_iff_eq, beq_iff_eq]
 omega
def outT (cells outputs : List Int) (j : Nat) : Nat := (List.range j).foldl (fun m i => 2 * m + (if ballB (rd cells (rd outputs (i : Nat))) = true then 1 else 0)) 0
theorem Zgx (cells outputs : List Int) (j : Nat) : outT cells outputs (j + 1) = 2 * outT cells outputs j + (if ballB (rd cells (rd outputs j)) = true then 1 else 0) := by
 simp [outT, List.range_succ, List.foldl_append]
theorem Zjj (cells outputs : List Int) : ∀ j, outT cells outputs j < 2 ^ j
 | 0 => by simp [outT]
 | j + 1 => by
  have := Zjj cells outputs j
  rw [Zgx, Nat.pow_succ]
  split <;> omega
def allIn (l : List Int) (n : Nat) : Bool := l.all fun x => decide (0 ≤ x) && decide (x < n)
theorem Zgk {l : List Int} {n : Nat} (h : allIn l n = true) : ∀ j : Nat, j < l.length → 0 ≤ rd l j ∧ rd l j < n := by
 intro j hj
 have := List.all_eq_true.1 h l[j] (List.getElem_mem _)
 simp only [Bool.and_eq_true, decide_eq_true_eq] at this
 simpa [rd, List.getD_eq_getElem?_getD, List.getElem?_eq_getElem hj] using this
def mcGo (k : Nat) (a0 a1 : Int) (cells inputs outputs : List Int) (word : ByteArray) : Nat → Option (List Int)
 | 0 => some []
 | n + 1 => (mcGo k a0 a1 cells inputs outputs word n).bind fun out => (Zdi.f k a0 a1 (fillT cells inputs n inputs.length) word).bind fun r => if allIn outputs r.2.2.length = true then some (out ++ [(outT r.2.2 outputs outputs.length : Int)]) else none
def tabOk (cells inputs outputs : List Int) : Bool := decide (0 < cells.length) && decide (cells.length < 1000000) && decide (inputs.length ≤ 16) && decide (outputs.length ≤ 16) && allIn inputs cells.length
def Zcm.f (k : Nat) (a0 a1 : Int) (cells inputs outputs : List Int) (word : ByteArray) : Option (List Int) := if tabOk cells inputs outputs = true then mcGo k a0 a1 cells inputs outputs word (2 ^ inputs.length) else none
theorem Zg0 {k : Nat} {a0 a1 : Int} {cells inputs outputs : List Int} {word : ByteArray} : ∀ {n : Nat} {out : List Int}, mcGo k a0 a1 cells inputs outputs word n = some out → out.length = n
 | 0, out, h => by
  obtain rfl := Option.some.inj (show some [] = some out from h)
  rfl
 | n + 1, out, h => by
  simp only [mcGo] at h
  obtain ⟨o, ho, h⟩ := Option.bind_eq_some_iff.mp h
  obtain ⟨r, hr, h⟩ := Option.bind_eq_some_iff.mp h
  split at h
  ·obtain rfl := Option.some.inj h
   have := Zg0 ho
   simp [this]
  ·cases h
theorem Zlj {k : Nat} {a0 a1 : Int} {cells inputs outputs : List Int} {word : ByteArray} {n : Nat} : ∀ (j : Nat) {out : List Int}, mcGo k a0 a1 cells inputs outputs word (n + j) = some out → ∃ o, mcGo k a0 a1 cells inputs outputs word n = some o
 | 0, out, h => ⟨out, h⟩
 | j + 1, out, h => by
  rw [← Nat.add_assoc] at h
  simp only [mcGo] at h
  obtain ⟨o, ho, _⟩ := Option.bind_eq_some_iff.mp h
  exact Zlj j ho
set_option maxHeartbeats 2000000 in
set_option maxRecDepth 100000 in
theorem Zcm.calls (k : Nat) (a0_0 : Int) (a0_1 : Int) (A0_2 : Option Addr) (c0_2 : Nat) (l0_2 : List Int) (A1 : Option Addr) (c1 : Nat) (l1 : List Int) (A2 : Option Addr) (c2 : Nat) (l2 : List Int) (a3 : ByteArray) (r : List Int) (w : World) (hr0_2 : Kd.C (Kd.int .u8) w A0_2 l0_2.length l0_2) (hc0_2 : l0_2.length ≤ c0_2) (hr1 : Kd.C (Kd.int .i64) w A1 l1.length l1) (hc1 : l1.length ≤ c1) (hr2 : Kd.C (Kd.int .i64) w A2 l2.length l2) (hc2 : l2.length ≤ c2) (h : Zcm.f k a0_0 a0_1 l0_2 l1 l2 a3 = some r) :
  Calls Tryz.prog 45 #[.agg #[.int .i64 a0_0, .int .i64 a0_1, .slice A0_2 l0_2.length c0_2], .slice A1 l1.length c1, .slice A2 l2.length c2, .string a3] w fun e w' => ∃ v0_ : Value, e = .returned (v0_) ∧ Kd.R (Kd.int .i64) 3 w' w.heap.size (fun _ => True) v0_ r ∧ Below w.heap.size w w' := by
 unfold Zcm.f at h
 split at h
 case isFalse => cases h
 rename_i hok
 unfold tabOk at hok
 simp only [Bool.and_eq_true, decide_eq_true_eq] at hok
 obtain ⟨⟨⟨⟨hpos, hcl⟩, hll⟩, hol⟩, hin⟩ := hok
 have hin2 := Zgk hin
 have hm16 : 2 ^ l1.length ≤ 65536 := Nat.le_trans (Nat.pow_le_pow_right (by omega) hll) (by decide)
 obtain ⟨m, hm⟩ : ∃ m, m = 2 ^ l1.length := ⟨_, rfl⟩
 rw [← hm] at h hm16
 have HM := Zad.mk hm
 have HALL := Zad.mk h
 have HIN := Zad.mk hin2
 clear hm h hin hin2
 go_enter Tryz.func45, Tryz.ntmps45
 go_wp2
 obtain ⟨w0, hw0⟩ : ∃ w0, w.alloc (.cells #[.int .i64 a0_0, .int .i64 a0_1, .slice A0_2 l0_2.length c0_2] 52) = w0 := ⟨_, rfl⟩
 have hB0 : Below w.heap.size w w0 := by rw [← hw0]; exact (Below.refl _ _).alloc (Nat.le_refl _) _
 have hs0 : w0.heap.size = w.heap.size + 1 := by rw [← hw0]; simp
 have BT : w0.heap[w.heap.size]? = some (.cells #[.int .i64 a0_0, .int .i64 a0_1, .slice A0_2 l0_2.length c0_2] 52 (0, 0)) := by
  rw [← hw0]; simpa using heap_alloc_new w _
 rw [hw0]
 clear hw0
 have hsh : wrap64 (2 ^ l1.length) = (m : Int) := by
  rw [HM.out, show ((2 : Int) ^ l1.length) = ((2 ^ l1.length : Nat) : Int) by simp, ← HM.out]
  unfold wrap64; omega
 have HSH := Zad.mk hsh
 clear hsh
 go_loopw [9, 10] (fun v9 v10 wr => ∃ (n : Nat) (out : List Int), n ≤ m ∧ v10 = .int .i64 n ∧ Zad (mcGo k a0_0 a0_1 l0_2 l1 l2 a3 n = some out) ∧ wr.heap[w.heap.size]? = some (.cells #[.int .i64 a0_0, .int .i64 a0_1, .slice A0_2 l0_2.length c0_2] 52 (0, 0)) ∧ w.heap.size < wr.heap.size ∧ Kd.R (Kd.int .i64) 3 wr w.heap.size (fun _ => True) v9 out ∧ Below w.heap.size w wr)
  (fun _ v10 _ => m - (intOf v10).toNat)
 case atStart => exact ⟨0, [], Nat.zero_le _, rfl, ⟨rfl⟩, BT, by omega, Kd.R_nil _ _ _ _ _, hB0⟩
 case round =>
  clear BT hB0 hs0
  obtain ⟨n, out, hn, rfl, HN, BT, hsz, hR, hB⟩ := hrel
  rcases Nat.lt_or_eq_of_le hn with hlt | heq
  ·have q1 := eq_true (show (n : Int) < wrap64 (2 ^ l1.length) by rw [HSH.out]; omega)
   have hz0 : wr.cell? ⟨w.heap.size, 0, none⟩ = some (.int .i64 a0_0) := (Zah BT 0).trans rfl
   have hz1 : wr.cell? ⟨w.heap.size, 1, none⟩ = some (.int .i64 a0_1) := (Zah BT 1).trans rfl
   have hz2 : wr.cell? ⟨w.heap.size, 2, none⟩ = some (.slice A0_2 l0_2.length c0_2) := (Zah BT 2).trans rfl
   obtain ⟨out2, hout2⟩ := Zlj (n := n + 1) (m - (n + 1)) (by rw [show n + 1 + (m - (n + 1)) = m by omega]; exact HALL.out)
   have hout3 := hout2
   simp only [mcGo] at hout3
   rw [HN.out] at hout3
   obtain ⟨⟨t1, t2, l3⟩, hrun, hout3⟩ := Option.bind_eq_some_iff.mp (show (Zdi.f k a0_0 a0_1 (fillT l0_2 l1 n l1.length) a3).bind (fun r => if allIn l2 r.2.2.length = true then some (out ++ [(outT r.2.2 l2 l2.length : Int)]) else none) = some out2 from hout3)
   simp only at hout3
   split at hout3
   case isFalse => cases hout3
   rename_i hal
   obtain rfl := Option.some.inj hout3
   have hol2 := Zg0 HN.out
   have HO2 := Zad.mk hout2
   have HRUN := Zad.mk hrun
   have HAL := Zad.mk (Zgk hal)
   clear hout2 hout3 hrun hal
   go_wp2_with (go_at_call 89; refine (Zb8.calls a0_0 a0_1 A0_2 c0_2 l0_2 a0_0 a0_1 l0_2 _ ?_ hc0_2 ?_).mono ?_; exact Kd.C_below hr0_2 hB; unfold Zb8.f; rw [Option.bind_some]; exact if_pos (by simp; omega); rintro e w2 ⟨v2, rfl, hR2, hb2⟩; obtain ⟨Ag, cg, rfl⟩ := Kd.R_slice hR2)
   obtain ⟨g, cap, eg, hgb, hgl, _⟩ := Kd.R_form hR2 hpos
   injection eg with eg _ ec
   subst eg ec
   obtain ⟨Wi, hWi⟩ : ∃ Wi, w2.alloc (.cells #[.int .i64 a0_0, .int .i64 a0_1, .slice (some ⟨g, 0, none⟩) l0_2.length cg] 52) = Wi := ⟨_, rfl⟩
   rw [hWi]
   have hszi : Wi.heap.size = w2.heap.size + 1 := by rw [← hWi]; simp
   have hsz2 := hb2.size
   have hBi : Below w.heap.size w Wi := by rw [← hWi]; exact (hB.trans (hb2.mono (by omega))).alloc (by omega) _
   have hBn : Wi.heap[w2.heap.size]? = some (.cells #[.int .i64 a0_0, .int .i64 a0_1, .slice (some ⟨g, 0, none⟩) l0_2.length cg] 52 (0, 0)) := by
    rw [← hWi]; simpa using heap_alloc_new w2 _
   have hBTi : Wi.heap[w.heap.size]? = some (.cells #[.int .i64 a0_0, .int .i64 a0_1, .slice A0_2 l0_2.length c0_2] 52 (0, 0)) := by
    rw [← hWi, Below.heap_alloc _ _ _ (by omega), hb2.block _ (by omega)]; exact BT
   have hRi : Kd.R (Kd.int .u8) 5 Wi w.heap.size (fun k => some k = (Value.slice (some ⟨g, 0, none⟩) l0_2.length cg).ownBlock) (.slice (some ⟨g, 0, none⟩) l0_2.length cg) l0_2 := by
    rw [← hWi]; exact Kd.R_alloc (Kd.R_lower (Kd.R_tight rfl hR2) (by omega)) _
   have hOi : Kd.R (Kd.int .i64) 3 Wi w.heap.size (fun k => k < wr.heap.size) u9 out := by
    rw [← hWi]; exact Kd.R_alloc (Kd.R_below (Kd.R_mono (Kd.R_bound hR) (fun k hk => hk.2.2.1)) hb2) _
   clear hWi hR2 hR hb2 hz0 hz1 hz2 BT
   have HBN := Zad.mk hBn
   have HBT := Zad.mk hBTi
   clear hBn hBTi
   go_loopw [28] (fun v28 wq => ∃ (j : Nat), j ≤ l1.length ∧ v28 = .int .i64 j ∧ Kd.R (Kd.int .u8) 5 wq w.heap.size (fun k => some k = (Value.slice (some ⟨g, 0, none⟩) l0_2.length cg).ownBlock) (.slice (some ⟨g, 0, none⟩) l0_2.length cg) (fillT l0_2 l1 n j) ∧ Kept Wi wq (fun k => k = g) ∧ Below w.heap.size w wq)
    (fun v28 _ => l1.length - (intOf v28).toNat)
   case atStart => exact ⟨0, Nat.zero_le _, rfl, hRi, Kept.refl _ _, hBi⟩
   case round =>
    clear hRi hBi
    obtain ⟨j, hj, rfl, hRq, hK, hBq⟩ := hrel
    have bN := Zcv HBN.out hK (by omega)
    have hy0 : wr.cell? ⟨w2.heap.size, 0, none⟩ = some (.int .i64 a0_0) := (Zah bN 0).trans rfl
    have hy1 : wr.cell? ⟨w2.heap.size, 1, none⟩ = some (.int .i64 a0_1) := (Zah bN 1).trans rfl
    have hy2 : wr.cell? ⟨w2.heap.size, 2, none⟩ = some (.slice (some ⟨g, 0, none⟩) l0_2.length cg) := (Zah bN 2).trans rfl
    have hfl := Zc8 l0_2 l1 n j
    rcases Nat.lt_or_eq_of_le hj with hlt2 | heq2
    ·obtain ⟨ad2, e2, hx2⟩ := Kd.at_int (Kd.C_below hr1 hBq) (j : Int) (by omega) (by omega)
     subst e2
     rw [Int.toNat_natCast] at hx2
     obtain ⟨hk0, hk1⟩ := HIN.out j hlt2
     obtain ⟨hg4, hf4⟩ := Kd.R_celln 0 hRq (rd l1 j) hk0 (by omega)
     have hput := Kd.R_putg hRq (rd l1 j) 111
     have HPUT := Zad.mk hput
     have hst := Zga l0_2 l1 n j
     have HST := Zad.mk hst
     have p2 := eq_true (show (0 : Int) ≤ (j : Int) by omega)
     have q2 := eq_true (show (j : Int) < (l1.length : Int) by omega)
     have p3 := eq_true hk0
     have q3 := eq_true (show rd l1 j < (l0_2.length : Int) from hk1)
     clear hput hst
     go_wp2
     ·have hb := Zi5 (n := n) (L := l1.length) (j := j) (b := true) (by assumption)
      have h2 := HST.out
      rw [hb, if_pos rfl] at h2
      refine ⟨⟨j + 1, by omega, by simp, by rw [h2]; exact HPUT.out.1, hK.setCell (p := ⟨g, _, none⟩) (.inl rfl) _, hBq.setCell (p := ⟨g, _, none⟩) (by show w.heap.size ≤ g; omega) _⟩, ?_⟩
      simp [intOf]; omega
     ·have hb := Zi5 (n := n) (L := l1.length) (j := j) (b := false) (by assumption)
      have h2 := HST.out
      rw [hb, if_neg (by decide)] at h2
      refine ⟨⟨j + 1, by omega, by simp, by rw [h2]; exact hRq, hK, hBq⟩, ?_⟩
      simp [intOf]; omega
    ·have q2 := eq_false (show ¬ ((j : Int) < (l1.length : Int)) by omega)
     have hjl : j = l1.length := heq2
     rw [hjl] at hRq
     have hR3 := Kd.R_reads' hRq
     have hszq := hBq.size
     have hszk := hK.1
     have bT := Zcv HBT.out hK (by omega)
     have hf0 := Zae bN 0
     have hC3 := hR3.2.2
     have hcf : (fillT l0_2 l1 n l1.length).length ≤ cg := by rw [Zc8]; exact hR3.2.1
     have HC3 := Zad.mk hC3
     have hbq2 : ∀ {w4 : World}, Below wr.heap.size wr w4 → w4.heap[w2.heap.size]? = some (.cells #[.int .i64 a0_0, .int .i64 a0_1, .slice (some ⟨g, 0, none⟩) l0_2.length cg] 52 (0, 0)) := fun hb => (hb.block _ (by omega)).trans bN
     go_wp2_with (go_at_call 90; refine (Zdi.calls k a0_0 a0_1 (some ⟨g, 0, none⟩) cg (fillT l0_2 l1 n l1.length) a3 t1 t2 l3 _ HC3.out hcf HRUN.out).mono ?_; rintro e w4 ⟨A4, c4, rfl, hl4, hC4, hA4, hb4⟩; have bN4 := hbq2 hb4; have y0 : w4.cell? ⟨w2.heap.size, 0, none⟩ = some (.int .i64 a0_0) := (Zah bN4 0).trans rfl; have y1 : w4.cell? ⟨w2.heap.size, 1, none⟩ = some (.int .i64 a0_1) := (Zah bN4 1).trans rfl; have y2 : w4.cell? ⟨w2.heap.size, 2, none⟩ = some (.slice (some ⟨g, 0, none⟩) l0_2.length cg) := (Zah bN4 2).trans rfl; have f0 := Zae bN4 0; have f1 := Zae bN4 1; have f2 := Zae bN4 2)
     obtain ⟨Ws, hWs⟩ : ∃ Ws, (((w4.setCell ⟨w2.heap.size, 0, none⟩ (.int .i64 t1)).setCell ⟨w2.heap.size, 1, none⟩ (.int .i64 t2)).setCell ⟨w2.heap.size, 2, none⟩ (.slice A4 l3.length c4)) = Ws := ⟨_, rfl⟩
     have hKs : Zc1 w4 Ws w2.heap.size none := by rw [← hWs]; exact (((Zc1.refl w4 _ _).set_ 0 _).set_ 1 _).set_ 2 _
     have hne : ∀ ad, A4 = some ad → 0 < l3.length → ad.block ≠ w2.heap.size := by
      intro ad had hl
      rcases hA4 with ⟨h1, h2⟩ | h1
      ·rw [h1] at had
       injection had with had
       subst had
       show g ≠ w2.heap.size
       omega
      ·have := h1 ad had hl; omega
     have hCs := C_box hC4 hKs hne
     have bNs : Ws.heap[w2.heap.size]? = some (.cells #[.int .i64 t1, .int .i64 t2, .slice A4 l3.length c4] 52 (0, 0)) := by
      rw [← hWs]
      refine Zav (cs := #[.int .i64 t1, .int .i64 t2, .slice (some ⟨g, 0, none⟩) l0_2.length cg]) ?_ 2 _ rfl
      refine Zav (cs := #[.int .i64 t1, .int .i64 a0_1, .slice (some ⟨g, 0, none⟩) l0_2.length cg]) ?_ 1 _ rfl
      exact Zav (cs := #[.int .i64 a0_0, .int .i64 a0_1, .slice (some ⟨g, 0, none⟩) l0_2.length cg]) bN4 0 _ rfl
     have hsz4 := hb4.size
     have hB4 : Below w.heap.size w w4 := hBq.trans (hb4.mono (by omega))
     have hBs : Below w.heap.size w Ws := by rw [← hWs]; exact ((hB4.setCell (by show w.heap.size ≤ w2.heap.size; omega) _).setCell (by show w.heap.size ≤ w2.heap.size; omega) _).setCell (by show w.heap.size ≤ w2.heap.size; omega) _
     have hszs := hKs.1
     have bTs : Ws.heap[w.heap.size]? = some (.cells #[.int .i64 a0_0, .int .i64 a0_1, .slice A0_2 l0_2.length c0_2] 52 (0, 0)) := (hKs.2 _ (by omega) (by omega) (by simp)).trans ((hb4.block _ (by omega)).trans bT)
     have hKt : Kept w4 Ws (fun k => k = w2.heap.size) := by rw [← hWs]; exact (((Kept.refl w4 (fun k => k = w2.heap.size)).setCell (p := ⟨w2.heap.size, 0, none⟩) (.inl rfl) _).setCell (p := ⟨w2.heap.size, 1, none⟩) (.inl rfl) _).setCell (p := ⟨w2.heap.size, 2, none⟩) (.inl rfl) _
     have hOs : Kd.R (Kd.int .i64) 3 Ws w.heap.size (fun _ => True) u9 out :=
      Kd.R_mono (Kd.R_kept (Kd.R_below (Kd.R_kept hOi hK (fun k hk he => by omega)) hb4) hKt (fun k hk he => by omega)) (fun _ _ => trivial)
     have hR2s := Kd.C_below hr2 hBs
     rw [hWs]
     have HBNS := Zad.mk bNs
     clear hWs hKs hKt y0 y1 y2 f0 f1 f2 hy0 hy1 hy2 hRq hC3 hR3 hC4 hA4 bN4 hb4 hOi hbq2 hf0 HC3 hcf bT bN hK hfl hB4 hBq
     go_loopw [14, 52] (fun v14 v52 wq => ∃ (j : Nat), j ≤ l2.length ∧ v14 = .int .i64 (outT l3 l2 j : Int) ∧ v52 = .int .i64 j ∧ Below Ws.heap.size Ws wq)
      (fun _ v52 _ => l2.length - (intOf v52).toNat)
     case atStart => exact ⟨0, Nat.zero_le _, rfl, rfl, Below.refl _ _⟩
     case round =>
      obtain ⟨j2, hj2, rfl, rfl, hBq⟩ := hrel
      have bN := (hBq.block _ (by omega)).trans HBNS.out
      have hy2 : wr.cell? ⟨w2.heap.size, 2, none⟩ = some (.slice A4 l3.length c4) := (Zah bN 2).trans rfl
      have hlt16 : outT l3 l2 j2 < 65536 := Nat.lt_of_lt_of_le (Zjj l3 l2 j2) (Nat.le_trans (Nat.pow_le_pow_right (by omega) (show j2 ≤ 16 by omega)) (by decide))
      rcases Nat.lt_or_eq_of_le hj2 with hlt3 | heq3
      ·obtain ⟨ad5, e5, hx5⟩ := Kd.at_int (Kd.C_below hR2s hBq) (j2 : Int) (by omega) (by omega)
       subst e5
       rw [Int.toNat_natCast] at hx5
       obtain ⟨hk0, hk1⟩ := HAL.out j2 hlt3
       obtain ⟨ad6, e6, hx6⟩ := Kd.at_int (Kd.C_below hCs hBq) (rd l2 j2) hk0 hk1
       subst e6
       have p2 := eq_true (show (0 : Int) ≤ (j2 : Int) by omega)
       have q2 := eq_true (show (j2 : Int) < (l2.length : Int) by omega)
       have p3 := eq_true hk0
       have q3 := eq_true hk1
       have hst := Zgx l3 l2 j2
       have HST := Zad.mk hst
       clear hst
       have hw2 : wrap64 ((outT l3 l2 j2 : Int) * 2) = ((2 * outT l3 l2 j2 : Nat) : Int) := by unfold wrap64; omega
       have HW2 := Zad.mk hw2
       clear hw2
       cases hbb : ballB (rd l3 (rd l2 j2))
       ·go_wp2_with (go_at_call 91; refine (Zcb.calls (rd l3 (rd l2 j2)) false _ (by rw [Zfx, hbb])).mono ?_; rintro e w5 ⟨rfl, ⟨nd, rfl⟩⟩)
        refine ⟨⟨j2 + 1, by omega, ?_, by simp, Zaa hBq nd⟩, ?_⟩
        ·rw [HST.out, hbb]; exact congrArg (Value.int .i64) (by simp; omega)
        ·simp [intOf]; omega
       ·go_wp2_with (go_at_call 91; refine (Zcb.calls (rd l3 (rd l2 j2)) true _ (by rw [Zfx, hbb])).mono ?_; rintro e w5 ⟨rfl, ⟨nd, rfl⟩⟩)
        refine ⟨⟨j2 + 1, by omega, ?_, by simp, Zaa hBq nd⟩, ?_⟩
        ·rw [HST.out, hbb]; exact congrArg (Value.int .i64) (by simp; omega)
        ·simp [intOf]; omega
      ·have q2 := eq_false (show ¬ ((j2 : Int) < (l2.length : Int)) by omega)
       have hjl : j2 = l2.length := heq3
       subst hjl
       have hOq : Kd.R (Kd.int .i64) 3 wr w.heap.size (fun _ => True) u9 out := Kd.R_below hOs hBq
       have hszw := hBq.size
       have hBw : Below w.heap.size w wr := hBs.trans (hBq.mono (by omega))
       go_wp2_with (at_builtin; refine Kd.R_append (Kd.int .i64) (w0 := w) w.heap.size rfl _ _ 31 3 (.int .i64 0) 8 rfl Tryz.underlying31 info3 rfl (by decide) (by omega) u9 out (outT l3 l2 l2.length : Int) [.int .i64 (outT l3 l2 l2.length : Int)] (fun _ => True) (fun _ => False) rfl rfl rfl (fun _ hk => hk.elim) (fun _ _ => trivial) hOq hBw (by omega) (by omega) ?_; intro v5 w5 ho5 hb5 hg5 hat5)
       have bTw := (hBq.block _ (by omega)).trans bTs
       have bT5 := (hg5.block _ (by omega) (Kd.R_ne hOq bTw (by decide))).trans bTw
       have hsz5 := hg5.size
       refine ⟨⟨_, _, ⟨n + 1, by omega, rfl, out ++ [(outT l3 l2 l2.length : Int)], HO2, bT5, by omega, ho5⟩, Zc8 _ _ _ _, rfl, by simp⟩, ?_⟩
       simp [intOf]; omega
  ·subst heq
   have q1 := eq_false (show ¬ ((n : Int) < wrap64 (2 ^ l1.length)) by rw [HSH.out]; omega)
   go_wp2
   go_ret
   have : out = r := Option.some.inj (HN.out.symm.trans HALL.out)
   subst this
   exact ⟨_, rfl, hR, hB⟩
attribute [local go_sem] Zbn Zbl Zb3 Zb2 Zbb Zba Zbm Zbk
def Zbr.f (a0 : Int) (a1 : Int) (a2 : Int) : Option (Bool) := if a1 ≤ a0 then (some (decide (a0 ≤ a2))) else (some false)
set_option maxHeartbeats 8000000 in
set_option maxRecDepth 100000 in
theorem Zbr.calls (a0 : Int) (a1 : Int) (a2 : Int) (r : Bool) (w : World) (h : Zbr.f a0 a1 a2 = some r) :
  Calls Tryz.prog 157 #[.int .i64 a0, .int .i64 a1, .int .i64 a2] w fun e w' => e = .returned (.bool r) ∧ Za2 w w' := by
 have H : (if a1 ≤ a0 then (some (decide (a0 ≤ a2))) else (some false)) = some r := h
 clear h
 by_cases c4 : a1 ≤ a0
 ·rw [if_pos c4] at H
  have c4b0 : decide (a1 ≤ a0) = true := decide_eq_true c4
  clear c4
  obtain rfl := Option.some.inj H
  go_enter Tryz.func157, Tryz.ntmps157
  go_wp2
  go_ret
  exact ⟨by first | rfl | (simp; done) | (simp [*]; done), by repeat (first | exact Za2.refl _ | apply Za2.step)⟩
 ·rw [if_neg c4] at H
  have c4b0 : decide (a1 ≤ a0) = false := decide_eq_false c4
  clear c4
  obtain rfl := Option.some.inj H
  go_enter Tryz.func157, Tryz.ntmps157
  go_wp2
  go_ret
  exact ⟨by first | rfl | (simp; done) | (simp [*]; done), by repeat (first | exact Za2.refl _ | apply Za2.step)⟩
def Zcy.f (a0 : Int) (a1 : Int) : Option (Bool) := (Zbr.f a0 1 7).bind fun t101 => (if t101 = true then ((Zbr.f a1 1 7).bind fun t102 => (if t102 = true then (some (decide ((wrap64 (a0 * a1)) ≤ 36))) else (some false))) else (some false))
set_option maxHeartbeats 8000000 in
set_option maxRecDepth 100000 in
theorem Zcy.calls (a0 : Int) (a1 : Int) (r : Bool) (w : World) (h : Zcy.f a0 a1 = some r) :
  Calls Tryz.prog 105 #[.int .i64 a0, .int .i64 a1] w fun e w' => e = .returned (.bool r) ∧ Za2 w w' := by
 have H : ((Zbr.f a0 1 7).bind fun t101 => (if t101 = true then ((Zbr.f a1 1 7).bind fun t102 => (if t102 = true then (some (decide ((wrap64 (a0 * a1)) ≤ 36))) else (some false))) else (some false))) = some r := h
 clear h
 replace H := Option.bind_eq_some_iff.mp H
 obtain ⟨t101, A30, H⟩ := H
 replace H : (if t101 = true then ((Zbr.f a1 1 7).bind fun t102 => (if t102 = true then (some (decide ((wrap64 (a0 * a1)) ≤ 36))) else (some false))) else (some false)) = some r := H
 have A3 := Zad.mk A30
 clear A30
 by_cases c4 : t101 = true
 ·subst c4
  have H1 : ((Zbr.f a1 1 7).bind fun t102 => (if t102 = true then (some (decide ((wrap64 (a0 * a1)) ≤ 36))) else (some false))) = some r := by rw [if_pos rfl] at H; exact H
  clear H
  have H := H1
  clear H1
  replace H := Option.bind_eq_some_iff.mp H
  obtain ⟨t102, A50, H⟩ := H
  replace H : (if t102 = true then (some (decide ((wrap64 (a0 * a1)) ≤ 36))) else (some false)) = some r := H
  have A5 := Zad.mk A50
  clear A50
  by_cases c6 : t102 = true
  ·subst c6
   have H1 : (some (decide ((wrap64 (a0 * a1)) ≤ 36))) = some r := by rw [if_pos rfl] at H; exact H
   clear H
   have H := H1
   clear H1
   obtain rfl := Option.some.inj H
   go_enter Tryz.func105, Tryz.ntmps105
   go_wp2_with (first | ((with_reducible refine Zas (f := 157) rfl ?_); refine Zbg (some 6) rfl rfl Tryz.func157 (by kernel_rfl) rfl #[.int .i64 a0, .int .i64 1, .int .i64 7] rfl (by (try simp only [List.map_toArray, List.map_cons, List.map_nil]); first | done | rfl | (simp only [List.length_drop, List.length_take]; rfl)) ?_; (with_reducible refine (Zbr.calls a0 1 7 true _ A3.out).mono ?_); rintro e w' ⟨rfl, ⟨nd, rfl⟩⟩; refine ⟨_, rfl, ?_⟩) | (go_at_call 157; (with_reducible refine (Zbr.calls a1 1 7 true _ A5.out).mono ?_); rintro e w' ⟨rfl, ⟨nd, rfl⟩⟩))
   go_ret
   exact ⟨by first | rfl | (simp; done) | (simp [*]; done), by repeat (first | exact Za2.refl _ | apply Za2.step)⟩
  ·replace c6 := Bool.eq_false_iff.mpr c6
   subst c6
   have H1 : (some false) = some r := by rw [if_neg (show ¬ (false = true) by decide)] at H; exact H
   clear H
   have H := H1
   clear H1
   obtain rfl := Option.some.inj H
   go_enter Tryz.func105, Tryz.ntmps105
   go_wp2_with (first | ((with_reducible refine Zas (f := 157) rfl ?_); refine Zbg (some 6) rfl rfl Tryz.func157 (by kernel_rfl) rfl #[.int .i64 a0, .int .i64 1, .int .i64 7] rfl (by (try simp only [List.map_toArray, List.map_cons, List.map_nil]); first | done | rfl | (simp only [List.length_drop, List.length_take]; rfl)) ?_; (with_reducible refine (Zbr.calls a0 1 7 true _ A3.out).mono ?_); rintro e w' ⟨rfl, ⟨nd, rfl⟩⟩; refine ⟨_, rfl, ?_⟩) | (go_at_call 157; (with_reducible refine (Zbr.calls a1 1 7 false _ A5.out).mono ?_); rintro e w' ⟨rfl, ⟨nd, rfl⟩⟩))
   go_ret
   exact ⟨by first | rfl | (simp; done) | (simp [*]; done), by repeat (first | exact Za2.refl _ | apply Za2.step)⟩
 ·replace c4 := Bool.eq_false_iff.mpr c4
  subst c4
  have H1 : (some false) = some r := by rw [if_neg (show ¬ (false = true) by decide)] at H; exact H
  clear H
  have H := H1
  clear H1
  obtain rfl := Option.some.inj H
  go_enter Tryz.func105, Tryz.ntmps105
  go_wp2_with (first | ((with_reducible refine Zas (f := 157) rfl ?_); refine Zbg (some 6) rfl rfl Tryz.func157 (by kernel_rfl) rfl #[.int .i64 a0, .int .i64 1, .int .i64 7] rfl (by (try simp only [List.map_toArray, List.map_cons, List.map_nil]); first | done | rfl | (simp only [List.length_drop, List.length_take]; rfl)) ?_; (with_reducible refine (Zbr.calls a0 1 7 false _ A3.out).mono ?_); rintro e w' ⟨rfl, ⟨nd, rfl⟩⟩; refine ⟨_, rfl, ?_⟩))
  go_ret
  exact ⟨by first | rfl | (simp; done) | (simp [*]; done), by repeat (first | exact Za2.refl _ | apply Za2.step)⟩
mutual
def Za3.l0 : Nat → ByteArray → List ByteArray → List ByteArray → Int → Int → Option (Bool)
 | 0, _, _, _, _, _ => none
 | k + 1, x0, x3, x17, x18, x19 => if x19 < x18 then (if 0 ≤ x19 then (if x19 < (x17.length : Int) then (if 0 < (x3.length : Int) then (if ((rdOf ByteArray.empty x17 x19).size : Int) = ((rdOf ByteArray.empty x3 0).size : Int) then ((Zcl.f (rdOf ByteArray.empty x17 x19) (⟨#[35, 46, 111, 97, 98, 99, 100, 101, 102]⟩ : ByteArray)).bind fun t108 => (if t108.toList = ([] : List UInt8) then (Za3.l0 k x0 x3 x17 x18 (wrap64 (x19 + 1))) else (some false))) else (some false)) else (none)) else (none)) else (none)) else (Za3.l1 k x0 97)
def Za3.l1 : Nat → ByteArray → Int → Option (Bool)
 | 0, _, _ => none
 | k + 1, x0, x6 => if x6 ≤ 102 then ((Zb9.f x0 (Utf8.encode x6)).bind fun t109 => (if t109 > 1 then (some false) else (Za3.l1 k x0 (wrap32 (x6 + 1))))) else (some true)
end
def Za3.f (k : Nat) (a0 : ByteArray) : Option (Bool) := (Zcj.f k a0 (⟨#[47]⟩ : ByteArray)).bind fun t101 => (if 0 < (t101.length : Int) then ((Zcy.f ((rdOf ByteArray.empty t101 0).size : Int) (t101.length : Int)).bind fun t105 => (if t105 = true then (Za3.l0 k a0 t101 t101 (t101.length : Int) 0) else (some false))) else (none))
set_option maxHeartbeats 8000000 in
set_option maxRecDepth 100000 in
theorem Za3.calls (k : Nat) (a0 : ByteArray) (r : Bool) (w : World) (h : Za3.f k a0 = some r) :
  Calls Tryz.prog 68 #[.string a0] w fun e w' => e = .returned (.bool r) ∧ Below w.heap.size w w' := by
 have HB := Zad.mk (Below.refl w.heap.size w)
 have H : ((Zcj.f k a0 (⟨#[47]⟩ : ByteArray)).bind fun t101 => (if 0 < (t101.length : Int) then ((Zcy.f ((rdOf ByteArray.empty t101 0).size : Int) (t101.length : Int)).bind fun t105 => (if t105 = true then (Za3.l0 k a0 t101 t101 (t101.length : Int) 0) else (some false))) else (none))) = some r := h
 clear h
 replace H := Option.bind_eq_some_iff.mp H
 obtain ⟨t101, A20, H⟩ := H
 replace H : (if 0 < (t101.length : Int) then ((Zcy.f ((rdOf ByteArray.empty t101 0).size : Int) (t101.length : Int)).bind fun t105 => (if t105 = true then (Za3.l0 k a0 t101 t101 (t101.length : Int) 0) else (some false))) else (none)) = some r := H
 have A2 := Zad.mk A20
 clear A20
 by_cases c3 : 0 < (t101.length : Int)
 ·rw [if_pos c3] at H
  have c3b0 : decide (0 < (t101.length : Int)) = true := decide_eq_true c3
  have c3b1 : decide (0 < t101.length) = true := decide_eq_true (by omega)
  clear c3
  replace H := Option.bind_eq_some_iff.mp H
  obtain ⟨t105, A40, H⟩ := H
  replace H : (if t105 = true then (Za3.l0 k a0 t101 t101 (t101.length : Int) 0) else (some false)) = some r := H
  have A4 := Zad.mk A40
  clear A40
  by_cases c5 : t105 = true
  ·subst c5
   have H1 : (Za3.l0 k a0 t101 t101 (t101.length : Int) 0) = some r := by rw [if_pos rfl] at H; exact H
   clear H
   have H := H1
   clear H1
   have H' := Zad.mk H
   clear H
   go_enter Tryz.func68, Tryz.ntmps68
   go_wp2_with (first | ((with_reducible refine Zas (f := 104) rfl ?_); refine Zbg (some 8) rfl rfl Tryz.func104 (by kernel_rfl) rfl #[.string a0, .string (⟨#[47]⟩ : ByteArray)] rfl (by (try simp only [List.map_toArray, List.map_cons, List.map_nil]); first | done | rfl | (simp only [List.length_drop, List.length_take]; rfl)) ?_; (with_reducible refine (Zcj.calls k a0 (⟨#[47]⟩ : ByteArray) t101 _ A2.out).mono ?_); rintro e w6 ⟨v102, rfl, ho0, hb⟩; refine ⟨_, rfl, ?_⟩; have n0_ := Zad.mk (Kd.R_lower ho0 (Zak (by with_reducible repeat first | exact HB.out | apply Zac | apply Zaa | apply Zab))); have n1_ := Zad.mk (Zal (by with_reducible repeat first | exact HB.out | apply Zac | apply Zaa | apply Zab) hb); clear HB; have HO103 := n0_; have HB := n1_; obtain ⟨Ao7, co7, eo7⟩ := Kd.R_slice HO103.out; subst eo7; have p104 : 0 ≤ (0 : Int) := (by omega); have q104 : 0 < (t101.length : Int) := of_decide_eq_true (by first | (with_reducible assumption) | assumption); obtain ⟨ad104, e104, hx104_0⟩ := Kd.at_string (Kd.R_reads' HO103.out).2.2 0 p104 q104; cases e104; have qi104 : (0 < t101.length) = True := eq_true (by omega); (try rw [show ((0 : Int)).toNat = 0 from rfl] at hx104_0); (try rw [Addr.add_zero'] at hx104_0); replace p104 := eq_true p104; replace q104 := eq_true q104) | ((with_reducible refine Zas (f := 105) rfl ?_); refine Zbg (some 15) rfl rfl Tryz.func105 (by kernel_rfl) rfl #[.int .i64 ((rdOf ByteArray.empty t101 0).size : Int), .int .i64 (t101.length : Int)] rfl (by (try simp only [List.map_toArray, List.map_cons, List.map_nil]); first | done | rfl | (simp only [List.length_drop, List.length_take]; rfl)) ?_; (with_reducible refine (Zcy.calls ((rdOf ByteArray.empty t101 0).size : Int) (t101.length : Int) true _ A4.out).mono ?_); rintro e w' ⟨rfl, ⟨nd, rfl⟩⟩; refine ⟨_, rfl, ?_⟩))
   go_loopg [19] k (fun kq v19 w' => ∃ (x19_1 : Int), v19 = .int .i64 x19_1 ∧ Zad (Za3.l0 kq a0 t101 t101 (t101.length : Int) x19_1 = some r) ∧ Zad (kq ≤ k) ∧ Zad (Kd.R Kd.string 9 w' w.heap.size (fun _ => True) (.slice (some ad104) t101.length co7) t101) ∧ Zad (Kd.R Kd.string 9 w' w.heap.size (fun _ => True) (.slice (some ad104) t101.length co7) t101) ∧ Zad (Below w.heap.size w w'))
   case atStart => exact ⟨(0), (by first | rfl | (simp; done) | (simp [*]; done)), H', ⟨Nat.le_refl _⟩, ⟨by (with_reducible repeat (first | apply Kd.R_alloc | apply Kd.R_drewN | apply Kd.R_drew)); exact HO103.out⟩, ⟨by (with_reducible repeat (first | apply Kd.R_alloc | apply Kd.R_drewN | apply Kd.R_drew)); exact HO103.out⟩, ⟨by with_reducible repeat first | exact HB.out | apply Zac | apply Zaa | apply Zab⟩⟩
   case round =>
    clear H'
    obtain ⟨x19_1, rfl, HA, HK1, HO_3, HO_17, HB⟩ := hrel
    cases gk with
    | zero => exact absurd HA.out (by simp [Za3.l0])
    | succ k1 =>
     have H := HA.out
     clear HA
     simp only [Za3.l0] at H
     by_cases c8 : x19_1 < (t101.length : Int)
     ·rw [if_pos c8] at H
      have c8b0 : decide (x19_1 < (t101.length : Int)) = true := decide_eq_true c8
      clear c8
      by_cases c9 : 0 ≤ x19_1
      ·rw [if_pos c9] at H
       have c9b0 : decide (0 ≤ x19_1) = true := decide_eq_true c9
       clear c9
       by_cases c10 : x19_1 < (t101.length : Int)
       ·rw [if_pos c10] at H
        have c10b0 : decide (x19_1 < (t101.length : Int)) = true := decide_eq_true c10
        clear c10
        by_cases c11 : 0 < (t101.length : Int)
        ·rw [if_pos c11] at H
         have c11b0 : decide (0 < (t101.length : Int)) = true := decide_eq_true c11
         have c11b1 : decide (0 < t101.length) = true := decide_eq_true (by omega)
         clear c11
         by_cases c12 : ((rdOf ByteArray.empty t101 x19_1).size : Int) = ((rdOf ByteArray.empty t101 0).size : Int)
         ·rw [if_pos c12] at H
          have c12b0 : (((rdOf ByteArray.empty t101 x19_1).size : Int) == ((rdOf ByteArray.empty t101 0).size : Int)) = true := beq_iff_eq.mpr c12
          have c12b1 : (((rdOf ByteArray.empty t101 x19_1).size : Int) != ((rdOf ByteArray.empty t101 0).size : Int)) = false := bne_eq_false_iff_eq.mpr c12
          have c12b2 : ((rdOf ByteArray.empty t101 x19_1).size == (rdOf ByteArray.empty t101 0).size) = true := by first | simpa using c12 | (simp at c12 ⊢; omega)
          clear c12
          replace H := Option.bind_eq_some_iff.mp H
          obtain ⟨t108, A130, H⟩ := H
          replace H : (if t108.toList = ([] : List UInt8) then (Za3.l0 k1 a0 t101 t101 (t101.length : Int) (wrap64 (x19_1 + 1))) else (some false)) = some r := H
          have A13 := Zad.mk A130
          clear A130
          by_cases c14 : t108.toList = ([] : List UInt8)
          ·rw [if_pos c14] at H
           have c14b0 : (t108.toList == ([] : List UInt8)) = true := beq_iff_eq.mpr c14
           have c14b1 : (t108.toList != ([] : List UInt8)) = false := bne_eq_false_iff_eq.mpr c14
           clear c14
           have H' := Zad.mk H
           clear H
           have p106 : 0 ≤ (x19_1 : Int) := of_decide_eq_true (by first | (with_reducible assumption) | assumption)
           have q106 : x19_1 < (t101.length : Int) := of_decide_eq_true (by first | (with_reducible assumption) | assumption)
           obtain ⟨ad106, e106, hx106_0⟩ := Kd.at_string (Kd.R_reads' HO_17.out).2.2 x19_1 p106 q106
           obtain rfl : ad104 = ad106 := (by injection e106)
           replace p106 := eq_true p106
           replace q106 := eq_true q106
           have p107 : 0 ≤ (0 : Int) := (by omega)
           have q107 : 0 < (t101.length : Int) := of_decide_eq_true (by first | (with_reducible assumption) | assumption)
           obtain ⟨ad107, e107, hx107_0⟩ := Kd.at_string (Kd.R_reads' HO_3.out).2.2 0 p107 q107
           obtain rfl : ad104 = ad107 := (by injection e107)
           have qi107 : (0 < t101.length) = True := eq_true (by omega)
           (try rw [show ((0 : Int)).toNat = 0 from rfl] at hx107_0)
           (try rw [Addr.add_zero'] at hx107_0)
           replace p107 := eq_true p107
           replace q107 := eq_true q107
           go_wp2_with (first | (go_at_call 106; (with_reducible refine (Zcl.calls (rdOf ByteArray.empty t101 x19_1) (⟨#[35, 46, 111, 97, 98, 99, 100, 101, 102]⟩ : ByteArray) t108 _ A13.out).mono ?_); rintro e w15 ⟨rfl, hb⟩; have n0_ := Zad.mk (Kd.R_below (by (with_reducible repeat (first | apply Kd.R_alloc | apply Kd.R_drewN | apply Kd.R_drew)); exact HO_3.out) hb); have n1_ := Zad.mk (Kd.R_below (by (with_reducible repeat (first | apply Kd.R_alloc | apply Kd.R_drewN | apply Kd.R_drew)); exact HO_17.out) hb); have n2_ := Zad.mk (Zal (by with_reducible repeat first | exact HB.out | apply Zac | apply Zaa | apply Zab) hb); clear HO_3; clear HO_17; clear HB; have HO_3 := n0_; have HO_17 := n1_; have HB := n2_))
           go_roundg k1
           case measure => have := HK1.out; omega
           case rel => exact ⟨(wrap64 (x19_1 + 1)), (by first | rfl | (simp; done) | (simp [*]; done)), H', ⟨by have := HK1.out; omega⟩, ⟨by (with_reducible repeat (first | apply Kd.R_alloc | apply Kd.R_drewN | apply Kd.R_drew)); exact HO_3.out⟩, ⟨by (with_reducible repeat (first | apply Kd.R_alloc | apply Kd.R_drewN | apply Kd.R_drew)); exact HO_17.out⟩, ⟨by with_reducible repeat first | exact HB.out | apply Zac | apply Zaa | apply Zab⟩⟩
          ·rw [if_neg c14] at H
           have c14b0 : (t108.toList == ([] : List UInt8)) = false := beq_eq_false_iff_ne.mpr c14
           have c14b1 : (t108.toList != ([] : List UInt8)) = true := bne_iff_ne.mpr c14
           obtain rfl := Option.some.inj H
           have p106 : 0 ≤ (x19_1 : Int) := of_decide_eq_true (by first | (with_reducible assumption) | assumption)
           have q106 : x19_1 < (t101.length : Int) := of_decide_eq_true (by first | (with_reducible assumption) | assumption)
           obtain ⟨ad106, e106, hx106_0⟩ := Kd.at_string (Kd.R_reads' HO_17.out).2.2 x19_1 p106 q106
           obtain rfl : ad104 = ad106 := (by injection e106)
           replace p106 := eq_true p106
           replace q106 := eq_true q106
           have p107 : 0 ≤ (0 : Int) := (by omega)
           have q107 : 0 < (t101.length : Int) := of_decide_eq_true (by first | (with_reducible assumption) | assumption)
           obtain ⟨ad107, e107, hx107_0⟩ := Kd.at_string (Kd.R_reads' HO_3.out).2.2 0 p107 q107
           obtain rfl : ad104 = ad107 := (by injection e107)
           have qi107 : (0 < t101.length) = True := eq_true (by omega)
           (try rw [show ((0 : Int)).toNat = 0 from rfl] at hx107_0)
           (try rw [Addr.add_zero'] at hx107_0)
           replace p107 := eq_true p107
           replace q107 := eq_true q107
           go_wp2_with (first | (go_at_call 106; (with_reducible refine (Zcl.calls (rdOf ByteArray.empty t101 x19_1) (⟨#[35, 46, 111, 97, 98, 99, 100, 101, 102]⟩ : ByteArray) t108 _ A13.out).mono ?_); rintro e w16 ⟨rfl, hb⟩; have n0_ := Zad.mk (Kd.R_below (by (with_reducible repeat (first | apply Kd.R_alloc | apply Kd.R_drewN | apply Kd.R_drew)); exact HO_3.out) hb); have n1_ := Zad.mk (Kd.R_below (by (with_reducible repeat (first | apply Kd.R_alloc | apply Kd.R_drewN | apply Kd.R_drew)); exact HO_17.out) hb); have n2_ := Zad.mk (Zal (by with_reducible repeat first | exact HB.out | apply Zac | apply Zaa | apply Zab) hb); clear HO_3; clear HO_17; clear HB; have HO_3 := n0_; have HO_17 := n1_; have HB := n2_))
           go_ret
           exact ⟨by first | rfl | (simp [Zap, Zao] <;> rfl) | (simp [*, Zap, Zao] <;> rfl), by repeat (first | (with_reducible first | exact HB.out | apply Zac | apply Zaa | apply Zab) | exact HB.out)⟩
         ·rw [if_neg c12] at H
          have c12b0 : (((rdOf ByteArray.empty t101 x19_1).size : Int) == ((rdOf ByteArray.empty t101 0).size : Int)) = false := beq_eq_false_iff_ne.mpr c12
          have c12b1 : (((rdOf ByteArray.empty t101 x19_1).size : Int) != ((rdOf ByteArray.empty t101 0).size : Int)) = true := bne_iff_ne.mpr c12
          have c12b2 : ((rdOf ByteArray.empty t101 x19_1).size == (rdOf ByteArray.empty t101 0).size) = false := by first | simpa using c12 | (simp at c12 ⊢; omega)
          obtain rfl := Option.some.inj H
          have p106 : 0 ≤ (x19_1 : Int) := of_decide_eq_true (by first | (with_reducible assumption) | assumption)
          have q106 : x19_1 < (t101.length : Int) := of_decide_eq_true (by first | (with_reducible assumption) | assumption)
          obtain ⟨ad106, e106, hx106_0⟩ := Kd.at_string (Kd.R_reads' HO_17.out).2.2 x19_1 p106 q106
          obtain rfl : ad104 = ad106 := (by injection e106)
          replace p106 := eq_true p106
          replace q106 := eq_true q106
          have p107 : 0 ≤ (0 : Int) := (by omega)
          have q107 : 0 < (t101.length : Int) := of_decide_eq_true (by first | (with_reducible assumption) | assumption)
          obtain ⟨ad107, e107, hx107_0⟩ := Kd.at_string (Kd.R_reads' HO_3.out).2.2 0 p107 q107
          obtain rfl : ad104 = ad107 := (by injection e107)
          have qi107 : (0 < t101.length) = True := eq_true (by omega)
          (try rw [show ((0 : Int)).toNat = 0 from rfl] at hx107_0)
          (try rw [Addr.add_zero'] at hx107_0)
          replace p107 := eq_true p107
          replace q107 := eq_true q107
          go_wp2
          go_ret
          exact ⟨by first | rfl | (simp [Zap, Zao] <;> rfl) | (simp [*, Zap, Zao] <;> rfl), by repeat (first | (with_reducible first | exact HB.out | apply Zac | apply Zaa | apply Zab) | exact HB.out)⟩
        ·rw [if_neg c11] at H
         exact absurd H (by simp)
       ·rw [if_neg c10] at H
        exact absurd H (by simp)
      ·rw [if_neg c9] at H
       exact absurd H (by simp)
     ·rw [if_neg c8] at H
      have c8b0 : decide (x19_1 < (t101.length : Int)) = false := decide_eq_false c8
      clear c8
      have H' := Zad.mk H
      clear H
      go_wp2
      go_loopg [6] k1 (fun kq v6 w' => ∃ (x6_2 : Int), v6 = .int .i32 x6_2 ∧ Zad (Za3.l1 kq a0 x6_2 = some r) ∧ Zad (kq ≤ k1) ∧ Zad (Below w.heap.size w w'))
      case atStart => exact ⟨(97), (by first | rfl | (simp; done) | (simp [*]; done)), H', ⟨Nat.le_refl _⟩, ⟨by with_reducible repeat first | exact HB.out | apply Zac | apply Zaa | apply Zab⟩⟩
      case round =>
       clear H'
       obtain ⟨x6_2, rfl, HA, HK2, HB⟩ := hrel
       cases gk with
       | zero => exact absurd HA.out (by simp [Za3.l1])
       | succ k2 =>
        have H := HA.out
        clear HA
        simp only [Za3.l1] at H
        by_cases c17 : x6_2 ≤ 102
        ·rw [if_pos c17] at H
         have c17b0 : decide (x6_2 ≤ 102) = true := decide_eq_true c17
         clear c17
         replace H := Option.bind_eq_some_iff.mp H
         obtain ⟨t109, A180, H⟩ := H
         replace H : (if t109 > 1 then (some false) else (Za3.l1 k2 a0 (wrap32 (x6_2 + 1)))) = some r := H
         have A18 := Zad.mk A180
         clear A180
         by_cases c19 : t109 > 1
         ·rw [if_pos c19] at H
          have c19b0 : decide (1 < t109) = true := decide_eq_true c19
          clear c19
          obtain rfl := Option.some.inj H
          go_wp2_with (first | ((with_reducible refine Zas (f := 82) rfl ?_); refine Zbg (some 43) rfl rfl Tryz.func82 (by kernel_rfl) rfl #[.string a0, .string (Utf8.encode x6_2)] rfl (by (try simp only [List.map_toArray, List.map_cons, List.map_nil]); first | done | rfl | (simp only [List.length_drop, List.length_take]; rfl)) ?_; (with_reducible refine (Zb9.calls a0 (Utf8.encode x6_2) t109 _ A18.out).mono ?_); rintro e w20 ⟨rfl, hb⟩; refine ⟨_, rfl, ?_⟩; have n0_ := Zad.mk (Zal (by with_reducible repeat first | exact HB.out | apply Zac | apply Zaa | apply Zab) hb); clear HB; have HB := n0_))
          go_ret
          exact ⟨by first | rfl | (simp [Zap, Zao] <;> rfl) | (simp [*, Zap, Zao] <;> rfl), by repeat (first | (with_reducible first | exact HB.out | apply Zac | apply Zaa | apply Zab) | exact HB.out)⟩
         ·rw [if_neg c19] at H
          have c19b0 : decide (1 < t109) = false := decide_eq_false c19
          clear c19
          have H' := Zad.mk H
          clear H
          go_wp2_with (first | ((with_reducible refine Zas (f := 82) rfl ?_); refine Zbg (some 43) rfl rfl Tryz.func82 (by kernel_rfl) rfl #[.string a0, .string (Utf8.encode x6_2)] rfl (by (try simp only [List.map_toArray, List.map_cons, List.map_nil]); first | done | rfl | (simp only [List.length_drop, List.length_take]; rfl)) ?_; (with_reducible refine (Zb9.calls a0 (Utf8.encode x6_2) t109 _ A18.out).mono ?_); rintro e w21 ⟨rfl, hb⟩; refine ⟨_, rfl, ?_⟩; have n0_ := Zad.mk (Zal (by with_reducible repeat first | exact HB.out | apply Zac | apply Zaa | apply Zab) hb); clear HB; have HB := n0_))
          go_roundg k2
          case measure => have := HK1.out; have := HK2.out; omega
          case rel => exact ⟨(wrap32 (x6_2 + 1)), (by first | rfl | (simp; done) | (simp [*]; done)), H', ⟨by have := HK1.out; have := HK2.out; omega⟩, ⟨by with_reducible repeat first | exact HB.out | apply Zac | apply Zaa | apply Zab⟩⟩
        ·rw [if_neg c17] at H
         have c17b0 : decide (x6_2 ≤ 102) = false := decide_eq_false c17
         clear c17
         obtain rfl := Option.some.inj H
         go_wp2
         go_ret
         exact ⟨by first | rfl | (simp [Zap, Zao] <;> rfl) | (simp [*, Zap, Zao] <;> rfl), by repeat (first | (with_reducible first | exact HB.out | apply Zac | apply Zaa | apply Zab) | exact HB.out)⟩
  ·replace c5 := Bool.eq_false_iff.mpr c5
   subst c5
   have H1 : (some false) = some r := by rw [if_neg (show ¬ (false = true) by decide)] at H; exact H
   clear H
   have H := H1
   clear H1
   obtain rfl := Option.some.inj H
   go_enter Tryz.func68, Tryz.ntmps68
   go_wp2_with (first | ((with_reducible refine Zas (f := 104) rfl ?_); refine Zbg (some 8) rfl rfl Tryz.func104 (by kernel_rfl) rfl #[.string a0, .string (⟨#[47]⟩ : ByteArray)] rfl (by (try simp only [List.map_toArray, List.map_cons, List.map_nil]); first | done | rfl | (simp only [List.length_drop, List.length_take]; rfl)) ?_; (with_reducible refine (Zcj.calls k a0 (⟨#[47]⟩ : ByteArray) t101 _ A2.out).mono ?_); rintro e w22 ⟨v102, rfl, ho0, hb⟩; refine ⟨_, rfl, ?_⟩; have n0_ := Zad.mk (Kd.R_lower ho0 (Zak (by with_reducible repeat first | exact HB.out | apply Zac | apply Zaa | apply Zab))); have n1_ := Zad.mk (Zal (by with_reducible repeat first | exact HB.out | apply Zac | apply Zaa | apply Zab) hb); clear HB; have HO103 := n0_; have HB := n1_; obtain ⟨Ao23, co23, eo23⟩ := Kd.R_slice HO103.out; subst eo23; have p104 : 0 ≤ (0 : Int) := (by omega); have q104 : 0 < (t101.length : Int) := of_decide_eq_true (by first | (with_reducible assumption) | assumption); obtain ⟨ad104, e104, hx104_0⟩ := Kd.at_string (Kd.R_reads' HO103.out).2.2 0 p104 q104; cases e104; have qi104 : (0 < t101.length) = True := eq_true (by omega); (try rw [show ((0 : Int)).toNat = 0 from rfl] at hx104_0); (try rw [Addr.add_zero'] at hx104_0); replace p104 := eq_true p104; replace q104 := eq_true q104) | ((with_reducible refine Zas (f := 105) rfl ?_); refine Zbg (some 15) rfl rfl Tryz.func105 (by kernel_rfl) rfl #[.int .i64 ((rdOf ByteArray.empty t101 0).size : Int), .int .i64 (t101.length : Int)] rfl (by (try simp only [List.map_toArray, List.map_cons, List.map_nil]); first | done | rfl | (simp only [List.length_drop, List.length_take]; rfl)) ?_; (with_reducible refine (Zcy.calls ((rdOf ByteArray.empty t101 0).size : Int) (t101.length : Int) false _ A4.out).mono ?_); rintro e w' ⟨rfl, ⟨nd, rfl⟩⟩; refine ⟨_, rfl, ?_⟩))
   go_ret
   exact ⟨by first | rfl | (simp [Zap, Zao] <;> rfl) | (simp [*, Zap, Zao] <;> rfl), by repeat (first | (with_reducible first | exact HB.out | apply Zac | apply Zaa | apply Zab) | exact HB.out)⟩
 ·rw [if_neg c3] at H
  exact absurd H (by simp)
def inB (lo hi n : Int) : Bool := decide (lo ≤ n) && decide (n ≤ hi)
theorem Zdm (n lo hi : Int) : Zbr.f n lo hi = some (inB lo hi n) := by
 unfold Zbr.f inB
 by_cases h : lo ≤ n <;> simp [h]
set_option maxHeartbeats 1000000 in
theorem Zky.calls (n lo hi : Int) (b1 b2 : Nat) (w : World) (h1 : Boxed w b1 3 (.int .i64 lo)) (h2 : Boxed w b2 3 (.int .i64 hi)) :
  Calls Tryz.prog 221 #[.int .i64 n, .pointer (some ⟨b1, 0, none⟩), .pointer (some ⟨b2, 0, none⟩)] w fun e w' => e = .returned (.bool (!inB lo hi n)) ∧ Za2 w w' := by
 have hc1 := h1.cell
 have hc2 := h2.cell
 go_enter Tryz.func221, Tryz.ntmps221
 go_wp2_with (go_at_call 157; refine (Zbr.calls n lo hi (inB lo hi n) _ (Zdm n lo hi)).mono ?_; rintro e w2 ⟨rfl, ⟨nd, rfl⟩⟩)
 go_ret
 exact ⟨rfl, nd, rfl⟩
def outI (lo hi : Int) (l : List Int) : Nat → Nat → Int
 | _, 0 => -1
 | i, m + 1 => if inB lo hi (rd l i) = true then outI lo hi l (i + 1) m else i
theorem Zj5 (lo hi : Int) (l : List Int) : ∀ (m i : Nat), i + m = l.length → (outI lo hi l i m ≥ 0 ↔ (l.drop i).all (inB lo hi) = false)
 | 0, i, h => by rw [List.drop_eq_nil_of_le (by omega)]; simp [outI]
 | m + 1, i, h => by
  have hlt : i < l.length := by omega
  have hr : rd l (i : Int) = l[i] := by simp [rd, List.getD_eq_getElem?_getD, List.getElem?_eq_getElem hlt]
  have ih := Zj5 lo hi l m (i + 1) (by omega)
  rw [outI, List.drop_eq_getElem_cons hlt, List.all_cons, hr]
  cases hb : inB lo hi l[i]
  ·simp
  ·simpa using ih
set_option maxHeartbeats 1000000 in
theorem Zlu.calls (lo hi : Int) (b1 b2 : Nat) (A0 : Option Addr) (c0 : Nat) (l0 : List Int) (w : World) (hr0 : Kd.C (Kd.int .i64) w A0 l0.length l0) (hc0 : l0.length ≤ c0) (h1 : Boxed w b1 3 (.int .i64 lo)) (h2 : Boxed w b2 3 (.int .i64 hi)) :
  Calls Tryz.prog 95 #[.slice A0 l0.length c0, .func (.func 221) #[] #[.pointer (some ⟨b1, 0, none⟩), .pointer (some ⟨b2, 0, none⟩)]] w fun e w' => e = .returned (.int .i64 (outI lo hi l0 0 l0.length)) ∧ Za2 w w' := by
 have hmx := Kd.C_max hr0
 go_enter Tryz.func95, Tryz.ntmps95
 go_wp2
 go_loopw [8] (fun v8 wr => ∃ (i m nd : Nat), i + m = l0.length ∧ v8 = .int .i64 i ∧ wr = w.drewN nd ∧ Zad (outI lo hi l0 0 l0.length = outI lo hi l0 i m))
  (fun v8 _ => l0.length - (intOf v8).toNat)
 case atStart => exact ⟨0, l0.length, 0, by omega, rfl, rfl, ⟨rfl⟩⟩
 case round =>
  obtain ⟨i, m, nd, him, rfl, rfl, HO⟩ := hrel
  cases m with
  | zero =>
   have q1 := eq_false (show ¬ ((i : Int) < (l0.length : Int)) by omega)
   go_wp2
   go_ret
   exact ⟨by rw [HO.out]; rfl, nd, rfl⟩
  | succ m =>
   have q1 := eq_true (show (i : Int) < (l0.length : Int) by omega)
   have p1 := eq_true (show (0 : Int) ≤ (i : Int) by omega)
   obtain ⟨ad2, e2, hx2⟩ := Kd.at_int (Kd.C_drewN hr0 nd) (i : Int) (by omega) (by omega)
   subst e2
   rw [Int.toNat_natCast] at hx2
   have h1' : Boxed (w.drewN nd) b1 3 (.int .i64 lo) := h1
   have h2' : Boxed (w.drewN nd) b2 3 (.int .i64 hi) := h2
   have HS := Zad.mk (show outI lo hi l0 i (m + 1) = if inB lo hi (rd l0 i) = true then outI lo hi l0 (i + 1) m else i from rfl)
   cases hb : inB lo hi (rd l0 i)
   ·go_wp2_with (go_at_call 221; refine (Zky.calls (rd l0 i) lo hi b1 b2 _ h1' h2').mono ?_; rintro e w2 ⟨rfl, ⟨nd2, rfl⟩⟩; rw [hb])
    go_ret
    exact ⟨by rw [HO.out, HS.out, hb]; rfl, _, rfl⟩
   ·go_wp2_with (go_at_call 221; refine (Zky.calls (rd l0 i) lo hi b1 b2 _ h1' h2').mono ?_; rintro e w2 ⟨rfl, ⟨nd2, rfl⟩⟩; rw [hb])
    refine ⟨⟨i + 1, m, _, by omega, by simp, rfl, ⟨by rw [HO.out, HS.out, hb]; rfl⟩⟩, ?_⟩
    simp [intOf]; omega
def Zdb.f (l : List Int) (lo hi : Int) : Option Bool := some (l.all (inB lo hi))
set_option maxHeartbeats 1000000 in
theorem Zi1.calls (lo hi : Int) (b1 b2 : Nat) (A0 : Option Addr) (c0 : Nat) (l0 : List Int) (w : World) (hr0 : Kd.C (Kd.int .i64) w A0 l0.length l0) (hc0 : l0.length ≤ c0) (h1 : Boxed w b1 3 (.int .i64 lo)) (h2 : Boxed w b2 3 (.int .i64 hi)) :
  Calls Tryz.prog 53 #[.slice A0 l0.length c0, .func (.func 221) #[] #[.pointer (some ⟨b1, 0, none⟩), .pointer (some ⟨b2, 0, none⟩)]] w fun e w' => e = .returned (.bool (!l0.all (inB lo hi))) ∧ Za2 w w' := by
 have hneg := Zj5 lo hi l0 l0.length 0 (by omega)
 rw [List.drop_zero] at hneg
 have HN := Zad.mk hneg
 clear hneg
 go_enter Tryz.func53, Tryz.ntmps53
 go_wp2_with (go_at_call 95; refine (Zlu.calls lo hi b1 b2 A0 c0 l0 _ hr0 hc0 h1 h2).mono ?_; rintro e w2 ⟨rfl, ⟨nd, rfl⟩⟩)
 go_ret
 have e : decide (0 ≤ outI lo hi l0 0 l0.length) = !l0.all (inB lo hi) := by
  rw [Bool.eq_iff_iff, decide_eq_true_eq, Bool.not_eq_true']; exact HN.out
 rw [← e]
 exact ⟨rfl, nd, rfl⟩
set_option maxHeartbeats 1000000 in
theorem Zdb.calls (A0 : Option Addr) (c0 : Nat) (l0 : List Int) (a1 a2 : Int) (r : Bool) (w : World) (hr0 : Kd.C (Kd.int .i64) w A0 l0.length l0) (hc0 : l0.length ≤ c0) (h : Zdb.f l0 a1 a2 = some r) :
  Calls Tryz.prog 206 #[.slice A0 l0.length c0, .int .i64 a1, .int .i64 a2] w fun e w' => e = .returned (.bool r) ∧ Below w.heap.size w w' := by
 obtain rfl := Option.some.inj h
 clear h
 have hB : Below w.heap.size w ((w.alloc (.cells #[.int .i64 a1] 3)).alloc (.cells #[.int .i64 a2] 3)) := ((Below.refl _ _).alloc (Nat.le_refl _) _).alloc (by simp) _
 have hb1 : Boxed ((w.alloc (.cells #[.int .i64 a1] 3)).alloc (.cells #[.int .i64 a2] 3)) w.heap.size 3 (.int .i64 a1) := by
  show _ = _
  rw [Below.heap_alloc _ _ _ (by simp)]; simpa using heap_alloc_new w _
 have hb2 : Boxed ((w.alloc (.cells #[.int .i64 a1] 3)).alloc (.cells #[.int .i64 a2] 3)) (w.heap.size + 1) 3 (.int .i64 a2) := by
  have := heap_alloc_new (w.alloc (.cells #[.int .i64 a1] 3)) (.cells #[.int .i64 a2] 3)
  simpa [Boxed] using this
 have hC := Kd.C_below hr0 hB
 go_enter Tryz.func206, Tryz.ntmps206
 go_wp2_with (go_at_call 53; refine (Zi1.calls a1 a2 _ _ A0 c0 l0 _ hC hc0 hb1 hb2).mono ?_; rintro e w2 ⟨rfl, ⟨nd, rfl⟩⟩)
 go_ret
 exact ⟨by simp, Zaa hB nd⟩
def Zby.l0 : Nat → Int → List Int → Int → Int → Option (Bool)
 | 0, _, _, _, _ => none
 | k + 1, x1, x7, x8, x9 => if x9 < x8 then (if 0 ≤ x9 then (if x9 < (x7.length : Int) then (if (rd x7 x9) = x1 then (some true) else (Zby.l0 k x1 x7 x8 (wrap64 (x9 + 1)))) else (none)) else (none)) else (some false)
def Zby.f (k : Nat) (l0 : List Int) (a1 : Int) : Option (Bool) := Zby.l0 k a1 l0 (l0.length : Int) 0
set_option maxHeartbeats 8000000 in
set_option maxRecDepth 100000 in
theorem Zby.calls (k : Nat) (A0 : Option Addr) (c0 : Nat) (l0 : List Int) (a1 : Int) (r : Bool) (w : World) (hr0 : Kd.C (Kd.int .i64) w A0 l0.length l0) (hc0 : l0.length ≤ c0) (h : Zby.f k l0 a1 = some r) :
  Calls Tryz.prog 46 #[.slice A0 l0.length c0, .int .i64 a1] w fun e w' => e = .returned (.bool r) ∧ Za2 w w' := by
 have HR0 := Zad.mk hr0
 have HC0 := Zad.mk hc0
 clear hr0 hc0
 have H : (Zby.l0 k a1 l0 (l0.length : Int) 0) = some r := h
 clear h
 have H' := Zad.mk H
 clear H
 go_enter Tryz.func46, Tryz.ntmps46
 go_wp2
 go_loopg [9] k (fun kq v9 w' => ∃ (x9_1 : Int), v9 = .int .i64 x9_1 ∧ Zad (Zby.l0 kq a1 l0 (l0.length : Int) x9_1 = some r) ∧ Zad (kq ≤ k) ∧ Za2 w w')
 case atStart => exact ⟨(0), (by first | rfl | (simp; done) | (simp [*]; done)), H', ⟨Nat.le_refl _⟩, by repeat (first | exact Za2.refl _ | apply Za2.step)⟩
 case round =>
  clear H'
  obtain ⟨x9_1, rfl, HA, HK1, ⟨m1, rfl⟩⟩ := hrel
  cases gk with
  | zero => exact absurd HA.out (by simp [Zby.l0])
  | succ k1 =>
   have H := HA.out
   clear HA
   simp only [Zby.l0] at H
   by_cases c3 : x9_1 < (l0.length : Int)
   ·rw [if_pos c3] at H
    have c3b0 : decide (x9_1 < (l0.length : Int)) = true := decide_eq_true c3
    clear c3
    by_cases c4 : 0 ≤ x9_1
    ·rw [if_pos c4] at H
     have c4b0 : decide (0 ≤ x9_1) = true := decide_eq_true c4
     clear c4
     by_cases c5 : x9_1 < (l0.length : Int)
     ·rw [if_pos c5] at H
      have c5b0 : decide (x9_1 < (l0.length : Int)) = true := decide_eq_true c5
      clear c5
      by_cases c6 : (rd l0 x9_1) = a1
      ·rw [if_pos c6] at H
       have c6b0 : ((rd l0 x9_1) == a1) = true := beq_iff_eq.mpr c6
       have c6b1 : ((rd l0 x9_1) != a1) = false := bne_eq_false_iff_eq.mpr c6
       clear c6
       obtain rfl := Option.some.inj H
       have p101 : 0 ≤ (x9_1 : Int) := of_decide_eq_true (by first | (with_reducible assumption) | assumption)
       have q101 : x9_1 < (l0.length : Int) := of_decide_eq_true (by first | (with_reducible assumption) | assumption)
       obtain ⟨ad101, e101, hx101_0⟩ := Kd.at_int HR0.out x9_1 p101 q101
       cases e101
       replace p101 := eq_true p101
       replace q101 := eq_true q101
       go_wp2
       go_ret
       exact ⟨by first | rfl | (simp; done) | (simp [*]; done), by repeat (first | exact Za2.refl _ | apply Za2.step)⟩
      ·rw [if_neg c6] at H
       have c6b0 : ((rd l0 x9_1) == a1) = false := beq_eq_false_iff_ne.mpr c6
       have c6b1 : ((rd l0 x9_1) != a1) = true := bne_iff_ne.mpr c6
       have H' := Zad.mk H
       clear H
       have p101 : 0 ≤ (x9_1 : Int) := of_decide_eq_true (by first | (with_reducible assumption) | assumption)
       have q101 : x9_1 < (l0.length : Int) := of_decide_eq_true (by first | (with_reducible assumption) | assumption)
       obtain ⟨ad101, e101, hx101_0⟩ := Kd.at_int HR0.out x9_1 p101 q101
       cases e101
       replace p101 := eq_true p101
       replace q101 := eq_true q101
       go_wp2
       go_roundg k1
       case measure => have := HK1.out; omega
       case rel => exact ⟨(wrap64 (x9_1 + 1)), (by first | rfl | (simp; done) | (simp [*]; done)), H', ⟨by have := HK1.out; omega⟩, by repeat (first | exact Za2.refl _ | apply Za2.step)⟩
     ·rw [if_neg c5] at H
      exact absurd H (by simp)
    ·rw [if_neg c4] at H
     exact absurd H (by simp)
   ·rw [if_neg c3] at H
    have c3b0 : decide (x9_1 < (l0.length : Int)) = false := decide_eq_false c3
    clear c3
    obtain rfl := Option.some.inj H
    go_wp2
    go_ret
    exact ⟨by first | rfl | (simp; done) | (simp [*]; done), by repeat (first | exact Za2.refl _ | apply Za2.step)⟩
theorem Zd1 (n lo hi : Int) : Zca.f n lo hi = some (inB lo hi n) := by
 unfold Zca.f inB
 by_cases h : n ≥ lo
 ·rw [if_pos h]
  have h2 : lo ≤ n := h
  simp [h2]
 ·rw [if_neg h]
  have h2 : ¬ lo ≤ n := h
  simp [h2]
theorem Zhl (x : Int) (l : List Int) (hl : l.length < 1000000) : ∀ (m i k : Nat), i + m = l.length → m < k → Zby.l0 k x l (l.length : Int) i = some ((l.drop i).contains x)
 | 0, i, k + 1, h, hk => by
  rw [Zby.l0, if_neg (by omega), List.drop_eq_nil_of_le (by omega)]
  rfl
 | m + 1, i, k + 1, h, hk => by
  have hlt : i < l.length := by omega
  have hr : rd l (i : Int) = l[i] := by simp [rd, List.getD_eq_getElem?_getD, List.getElem?_eq_getElem hlt]
  have hw : wrap64 ((i : Int) + 1) = ((i + 1 : Nat) : Int) := by unfold wrap64; omega
  rw [Zby.l0, if_pos (by omega), if_pos (by omega), if_pos (by omega), hr, List.drop_eq_getElem_cons hlt, hw]
  by_cases he : l[i] = x
  ·rw [if_pos he]
   simp [he]
  ·rw [if_neg he, Zhl x l hl m (i + 1) k (by omega) (by omega)]
   have hne : ¬ x = l[i] := fun e => he e.symm
   rw [List.contains_cons, beq_eq_false_iff_ne.mpr hne, Bool.false_or]
theorem Zd7 (x : Int) (l : List Int) (k : Nat) (hl : l.length < 1000000) (hk : l.length < k) : Zby.f k l x = some (l.contains x) := by
 unfold Zby.f
 have h := Zhl x l hl l.length 0 k (by omega) hk
 rw [List.drop_zero] at h
 exact h
def Zel (cells l : List Int) (a2 : Int) : Nat → Nat → Bool
 | _, 0 => true
 | i, m + 1 => if inB 0 ((cells.length : Int) - 1) (rd l i) = false then false else if (l.take i).contains (rd l i) = true then false else if rd cells (rd l i) = 35 then false else if a2 ≠ 0 ∧ rd cells (rd l i) ≠ a2 then false else Zel cells l a2 (i + 1) m
def Zbi.f (k : Nat) (a0_0 a0_1 : Int) (l0_2 l1 : List Int) (a2 : Int) : Option Bool :=
 if inB 1 3 (l1.length : Int) = true then (if l0_2.length < 1000000 then some (Zel l0_2 l1 a2 0 l1.length) else none) else some false
theorem Zl2 {a b : Int} (h : ¬ a = b) : (a == b) = false := beq_eq_false_iff_ne.mpr h
set_option maxHeartbeats 1000000 in
set_option maxRecDepth 100000 in
theorem Zbi.calls (k : Nat) (a0_0 : Int) (a0_1 : Int) (A0_2 : Option Addr) (c0_2 : Nat) (l0_2 : List Int) (A1 : Option Addr) (c1 : Nat) (l1 : List Int) (a2 : Int) (r : Bool) (w : World) (hr0_2 : Kd.C (Kd.int .u8) w A0_2 l0_2.length l0_2) (hc0_2 : l0_2.length ≤ c0_2) (hr1 : Kd.C (Kd.int .i64) w A1 l1.length l1) (hc1 : l1.length ≤ c1) (h : Zbi.f k a0_0 a0_1 l0_2 l1 a2 = some r) :
  Calls Tryz.prog 88 #[.agg #[.int .i64 a0_0, .int .i64 a0_1, .slice A0_2 l0_2.length c0_2], .slice A1 l1.length c1, .int .u8 a2] w fun e w' => e = .returned (.bool r) ∧ Below w.heap.size w w' := by
 unfold Zbi.f at h
 go_enter Tryz.func88, Tryz.ntmps88
 obtain ⟨w0, hw0⟩ : ∃ w0, w.alloc (.cells #[.int .i64 a0_0, .int .i64 a0_1, .slice A0_2 l0_2.length c0_2] 52) = w0 := ⟨_, rfl⟩
 have hB0 : Below w.heap.size w w0 := by rw [← hw0]; exact (Below.refl _ _).alloc (Nat.le_refl _) _
 have hs0 : w0.heap.size = w.heap.size + 1 := by rw [← hw0]; simp
 have BT : w0.heap[w.heap.size]? = some (.cells #[.int .i64 a0_0, .int .i64 a0_1, .slice A0_2 l0_2.length c0_2] 52 (0, 0)) := by
  rw [← hw0]; simpa using heap_alloc_new w _
 split at h
 case isFalse hin =>
  obtain rfl := Option.some.inj h
  have hin2 : inB 1 3 (l1.length : Int) = false := by simpa using hin
  go_wp2_with (go_at_call 129; refine (Zca.calls (l1.length : Int) 1 3 false _ (by rw [Zd1, hin2])).mono ?_; rintro e w2 ⟨rfl, ⟨nd, rfl⟩⟩)
  go_ret
  exact ⟨rfl, Zaa hB0 nd⟩
 case isTrue hin =>
 split at h
 case isFalse => cases h
 rename_i hcl
 have hl3 : l1.length ≤ 3 := by
  have hin2 := hin
  unfold inB at hin2
  rw [Bool.and_eq_true, decide_eq_true_eq, decide_eq_true_eq] at hin2
  omega
 have HG := Zad.mk (Option.some.inj h)
 clear h
 go_wp2_with (go_at_call 129; refine (Zca.calls (l1.length : Int) 1 3 true _ (by rw [Zd1, hin])).mono ?_; rintro e w2 ⟨rfl, ⟨nd, rfl⟩⟩)
 clear hw0
 have hBd : Below w.heap.size w (w0.drewN nd) := Zaa hB0 nd
 have BTd : (w0.drewN nd).heap[w.heap.size]? = some (.cells #[.int .i64 a0_0, .int .i64 a0_1, .slice A0_2 l0_2.length c0_2] 52 (0, 0)) := Zaf BT nd
 clear hB0 hs0 BT
 go_loopw [15] (fun v15 wr => ∃ (i m : Nat), i + m = l1.length ∧ v15 = .int .i64 i ∧ Zad (Zel l0_2 l1 a2 i m = r) ∧ Zad (wr.heap[w.heap.size]? = some (.cells #[.int .i64 a0_0, .int .i64 a0_1, .slice A0_2 l0_2.length c0_2] 52 (0, 0))) ∧ Below w.heap.size w wr)
  (fun v15 _ => l1.length - (intOf v15).toNat)
 case atStart => exact ⟨0, l1.length, by omega, rfl, HG, ⟨BTd⟩, hBd⟩
 case round =>
  clear hBd BTd
  obtain ⟨i, m, him, rfl, HGo, BT, hB⟩ := hrel
  cases m with
  | zero =>
   have q1 := eq_false (show ¬ ((i : Int) < (l1.length : Int)) by omega)
   go_wp2
   go_ret
   exact ⟨by rw [← HGo.out]; rfl, hB⟩
  | succ m =>
   have hC := Kd.C_below hr1 hB
   obtain ⟨ad2, e2, hx2⟩ := Kd.at_int hC (i : Int) (by omega) (by omega)
   subst e2
   rw [Int.toNat_natCast] at hx2
   have q1 := eq_true (show (i : Int) < (l1.length : Int) by omega)
   have p1 := eq_true (show (0 : Int) ≤ (i : Int) by omega)
   have p2 := eq_true (show (i : Int) ≤ (c1 : Int) by omega)
   have hz2 : wr.cell? ⟨w.heap.size, 2, none⟩ = some (.slice A0_2 l0_2.length c0_2) := (Zah BT.out 2).trans rfl
   have hT : Kd.C (Kd.int .i64) wr (some ad2) (l1.take i).length (l1.take i) := Kd.C_take hC (by omega)
   have htl : (l1.take i).length = i := by rw [List.length_take]; omega
   have hgo := HGo.out
   rw [Zel] at hgo
   have HGN := Zad.mk hgo
   have HT := Zad.mk hT
   have HTL := Zad.mk htl
   clear hgo HGo hT htl
   cases hib : inB 0 ((l0_2.length : Int) - 1) (rd l1 i)
   ·rw [hib, if_pos rfl] at HGN
    have HIB := Zad.mk hib
    clear hib
    go_wp2_with (go_at_call 129; refine (Zca.calls (rd l1 i) 0 ((l0_2.length : Int) - 1) false _ (by rw [Zd1, HIB.out])).mono ?_; rintro e w4 ⟨rfl, ⟨nd4, rfl⟩⟩)
    go_ret
    exact ⟨by rw [← HGN.out]; rfl, Zaa hB nd4⟩
   ·rw [hib, if_neg (by decide)] at HGN
    have hib2 := hib
    unfold inB at hib2
    rw [Bool.and_eq_true, decide_eq_true_eq, decide_eq_true_eq] at hib2
    have HIB := Zad.mk hib
    clear hib
    have hk0 : 0 ≤ rd l1 i := hib2.1
    have hk1 : rd l1 i < (l0_2.length : Int) := by omega
    have p4 := eq_true hk0
    have q4 := eq_true hk1
    obtain ⟨ad5, e5, hx5⟩ := Kd.at_int (Kd.C_below hr0_2 hB) (rd l1 i) hk0 hk1
    subst e5
    cases hcb : (l1.take i).contains (rd l1 i)
    ·rw [hcb, if_neg (by decide)] at HGN
     have HCB := Zad.mk hcb
     clear hcb
     by_cases h35 : rd l0_2 (rd l1 i) = 35
     ·rw [if_pos h35] at HGN
      have h35b := beq_iff_eq.mpr h35
      clear h35
      go_wp2_with (first
       | (go_at_call 129; refine (Zca.calls (rd l1 i) 0 ((l0_2.length : Int) - 1) true _ (by rw [Zd1, HIB.out])).mono ?_; rintro e w4 ⟨rfl, ⟨nd4, rfl⟩⟩)
       | (go_at_call 46; have hh := Zby.calls 100 (some ad2) c1 (l1.take i) (rd l1 i) false (wr.drewN nd4) (Kd.C_drewN HT.out nd4) (by have := HTL.out; omega) (by rw [Zd7 _ _ _ (by have := HTL.out; omega) (by have := HTL.out; omega), HCB.out]); rw [HTL.out] at hh; refine hh.mono ?_; clear hh; rintro e w5 ⟨rfl, ⟨nd5, rfl⟩⟩))
      go_ret
      exact ⟨by rw [← HGN.out]; rfl, Zaa hB (nd4 + nd5)⟩
     ·rw [if_neg h35] at HGN
      have h35b := Zl2 h35
      clear h35
      by_cases h0 : a2 = 0
      ·rw [if_neg (fun e => e.1 h0)] at HGN
       have h0b : (a2 != 0) = false := by rw [bne, beq_iff_eq.mpr h0]; rfl
       clear h0
       go_wp2_with (first
        | (go_at_call 129; refine (Zca.calls (rd l1 i) 0 ((l0_2.length : Int) - 1) true _ (by rw [Zd1, HIB.out])).mono ?_; rintro e w4 ⟨rfl, ⟨nd4, rfl⟩⟩)
        | (go_at_call 46; have hh := Zby.calls 100 (some ad2) c1 (l1.take i) (rd l1 i) false (wr.drewN nd4) (Kd.C_drewN HT.out nd4) (by have := HTL.out; omega) (by rw [Zd7 _ _ _ (by have := HTL.out; omega) (by have := HTL.out; omega), HCB.out]); rw [HTL.out] at hh; refine hh.mono ?_; clear hh; rintro e w5 ⟨rfl, ⟨nd5, rfl⟩⟩))
       refine ⟨⟨i + 1, m, by omega, by simp, ⟨HGN.out⟩, ⟨Zaf BT.out (nd4 + nd5)⟩, Zaa hB (nd4 + nd5)⟩, ?_⟩
       simp [intOf]; omega
      ·have h0b : (a2 != 0) = true := by rw [bne, Zl2 h0]; rfl
       by_cases h2 : rd l0_2 (rd l1 i) = a2
       ·rw [if_neg (fun e => e.2 h2)] at HGN
        have h2b : (rd l0_2 (rd l1 i) != a2) = false := by rw [bne, beq_iff_eq.mpr h2]; rfl
        clear h0 h2
        go_wp2_with (first
         | (go_at_call 129; refine (Zca.calls (rd l1 i) 0 ((l0_2.length : Int) - 1) true _ (by rw [Zd1, HIB.out])).mono ?_; rintro e w4 ⟨rfl, ⟨nd4, rfl⟩⟩)
         | (go_at_call 46; have hh := Zby.calls 100 (some ad2) c1 (l1.take i) (rd l1 i) false (wr.drewN nd4) (Kd.C_drewN HT.out nd4) (by have := HTL.out; omega) (by rw [Zd7 _ _ _ (by have := HTL.out; omega) (by have := HTL.out; omega), HCB.out]); rw [HTL.out] at hh; refine hh.mono ?_; clear hh; rintro e w5 ⟨rfl, ⟨nd5, rfl⟩⟩))
        refine ⟨⟨i + 1, m, by omega, by simp, ⟨HGN.out⟩, ⟨Zaf BT.out (nd4 + nd5)⟩, Zaa hB (nd4 + nd5)⟩, ?_⟩
        simp [intOf]; omega
       ·rw [if_pos ⟨h0, h2⟩] at HGN
        have h2b : (rd l0_2 (rd l1 i) != a2) = true := by rw [bne, Zl2 h2]; rfl
        clear h0 h2
        go_wp2_with (first
         | (go_at_call 129; refine (Zca.calls (rd l1 i) 0 ((l0_2.length : Int) - 1) true _ (by rw [Zd1, HIB.out])).mono ?_; rintro e w4 ⟨rfl, ⟨nd4, rfl⟩⟩)
         | (go_at_call 46; have hh := Zby.calls 100 (some ad2) c1 (l1.take i) (rd l1 i) false (wr.drewN nd4) (Kd.C_drewN HT.out nd4) (by have := HTL.out; omega) (by rw [Zd7 _ _ _ (by have := HTL.out; omega) (by have := HTL.out; omega), HCB.out]); rw [HTL.out] at hh; refine hh.mono ?_; clear hh; rintro e w5 ⟨rfl, ⟨nd5, rfl⟩⟩))
        go_ret
        exact ⟨by rw [← HGN.out]; rfl, Zaa hB (nd4 + nd5)⟩
    ·rw [hcb, if_pos rfl] at HGN
     have HCB := Zad.mk hcb
     clear hcb
     go_wp2_with (first
      | (go_at_call 129; refine (Zca.calls (rd l1 i) 0 ((l0_2.length : Int) - 1) true _ (by rw [Zd1, HIB.out])).mono ?_; rintro e w4 ⟨rfl, ⟨nd4, rfl⟩⟩)
      | (go_at_call 46; have hh := Zby.calls 100 (some ad2) c1 (l1.take i) (rd l1 i) true (wr.drewN nd4) (Kd.C_drewN HT.out nd4) (by have := HTL.out; omega) (by rw [Zd7 _ _ _ (by have := HTL.out; omega) (by have := HTL.out; omega), HCB.out]); rw [HTL.out] at hh; refine hh.mono ?_; clear hh; rintro e w5 ⟨rfl, ⟨nd5, rfl⟩⟩))
     go_ret
     exact ⟨by rw [← HGN.out]; rfl, Zaa hB (nd4 + nd5)⟩
def Zbw.f (k : Nat) (a0 : ByteArray) (l1 : List Int) (l2 : List Int) (a3 : ByteArray) : Option (Int × Int × List Int × Bool) := (Zb1.f k a0 a3).bind fun bt102 => (if bt102.2.2.2 = true then ((Zbi.f k bt102.1 bt102.2.1 bt102.2.2.1 l1 46).bind fun t109 => (if t109 = true then ((Zbi.f k bt102.1 bt102.2.1 bt102.2.2.1 l2 0).bind fun t110 => (some (bt102.1, bt102.2.1, bt102.2.2.1, t110))) else (some (bt102.1, bt102.2.1, bt102.2.2.1, false)))) else (some (bt102.1, bt102.2.1, bt102.2.2.1, false)))
def Zbw.T2 : Bool × List (List Nat × List Nat) := (true, [([], []), ([], []), ([1], [1]), ([2], [2]), ([2], [2]), ([3, 4, 2, 2], [2, 3, 4]), ([2, 5], [2, 5]), ([6, 5], [6]), ([7], [7]), ([7], [7]), ([8, 9, 7, 7], [7, 8, 9]), ([7, 10], [7, 10]), ([0, 10, 0], [0]), ([11, 12, 0, 1, 2, 3, 4, 5, 6, 7, 8, 9, 10, 11, 12], [11])])
def Zbw.B2 : List Nat := [0, 0, 2, 6, 6, 30, 62, 126, 254, 254, 1022, 2046, 2047, 8191]
theorem Zbw.tab2 : rtab .any (opsOf Tryz.f44 2) = Zbw.T2 := by kernel_rfl
theorem Zbw.bits2 : Zer Zbw.T2.2 Zbw.B2 = true := by kernel_rfl
set_option maxHeartbeats 8000000 in
set_option maxRecDepth 100000 in
theorem Zbw.calls (k : Nat) (a0 : ByteArray) (A1 : Option Addr) (c1 : Nat) (l1 : List Int) (A2 : Option Addr) (c2 : Nat) (l2 : List Int) (a3 : ByteArray) (r1 : Int) (r2 : Int) (r3 : List Int) (r4 : Bool) (w : World) (hr1 : Kd.C (Kd.int .i64) w A1 l1.length l1) (hc1 : l1.length ≤ c1) (hr2 : Kd.C (Kd.int .i64) w A2 l2.length l2) (hc2 : l2.length ≤ c2) (h : Zbw.f k a0 l1 l2 a3 = some (r1, r2, r3, r4)) :
  Calls Tryz.prog 44 #[.string a0, .slice A1 l1.length c1, .slice A2 l2.length c2, .string a3] w fun e w' => ∃ v2_ : Value, e = .returned (.tuple #[.agg #[.int .i64 r1, .int .i64 r2, v2_], .bool r4]) ∧ Kd.R (Kd.int .u8) 5 w' w.heap.size (fun _ => True) v2_ r3 ∧ Below w.heap.size w w' := by
 have hu52 := Tryz.underlying52
 have HR1 := Zad.mk hr1
 have HC1 := Zad.mk hc1
 clear hr1 hc1
 have HR2 := Zad.mk hr2
 have HC2 := Zad.mk hc2
 clear hr2 hc2
 have HB := Zad.mk (Below.refl w.heap.size w)
 have H : ((Zb1.f k a0 a3).bind fun bt102 => (if bt102.2.2.2 = true then ((Zbi.f k bt102.1 bt102.2.1 bt102.2.2.1 l1 46).bind fun t109 => (if t109 = true then ((Zbi.f k bt102.1 bt102.2.1 bt102.2.2.1 l2 0).bind fun t110 => (some (bt102.1, bt102.2.1, bt102.2.2.1, t110))) else (some (bt102.1, bt102.2.1, bt102.2.2.1, false)))) else (some (bt102.1, bt102.2.1, bt102.2.2.1, false)))) = some (r1, r2, r3, r4) := h
 clear h
 replace H := Option.bind_eq_some_iff.mp H
 obtain ⟨⟨t102, t103, t104, t107⟩, A50, H⟩ := H
 replace H : (if t107 = true then ((Zbi.f k t102 t103 t104 l1 46).bind fun t109 => (if t109 = true then ((Zbi.f k t102 t103 t104 l2 0).bind fun t110 => (some (t102, t103, t104, t110))) else (some (t102, t103, t104, false)))) else (some (t102, t103, t104, false))) = some (r1, r2, r3, r4) := H
 have A5 := Zad.mk A50
 clear A50
 by_cases c6 : t107 = true
 ·subst c6
  have H1 : ((Zbi.f k t102 t103 t104 l1 46).bind fun t109 => (if t109 = true then ((Zbi.f k t102 t103 t104 l2 0).bind fun t110 => (some (t102, t103, t104, t110))) else (some (t102, t103, t104, false)))) = some (r1, r2, r3, r4) := by rw [if_pos rfl] at H; exact H
  clear H
  have H := H1
  clear H1
  replace H := Option.bind_eq_some_iff.mp H
  obtain ⟨t109, A70, H⟩ := H
  replace H : (if t109 = true then ((Zbi.f k t102 t103 t104 l2 0).bind fun t110 => (some (t102, t103, t104, t110))) else (some (t102, t103, t104, false))) = some (r1, r2, r3, r4) := H
  have A7 := Zad.mk A70
  clear A70
  by_cases c8 : t109 = true
  ·subst c8
   have H1 : ((Zbi.f k t102 t103 t104 l2 0).bind fun t110 => (some (t102, t103, t104, t110))) = some (r1, r2, r3, r4) := by rw [if_pos rfl] at H; exact H
   clear H
   have H := H1
   clear H1
   replace H := Option.bind_eq_some_iff.mp H
   obtain ⟨t110, A90, H⟩ := H
   replace H : (some (t102, t103, t104, t110)) = some (r1, r2, r3, r4) := H
   have A9 := Zad.mk A90
   clear A90
   simp only [Option.some.injEq, Prod.mk.injEq] at H
   obtain ⟨rfl, rfl, rfl, rfl⟩ := H
   go_enter Tryz.func44, Tryz.ntmps44
   try go_wp2_with (first | ((with_reducible refine Zaz (N := 8) rfl ?_); refine Zay ?hg (N := 8) ?hd (cs := #[.int .i64 0, .int .i64 0, .slice none 0 0]) (t := 52) ?hr ?_; (case hd => rfl); (case hg => rfl); (case hr => first | (go_simp; done) | (go_simp; rfl)); intro g01 hg w10 hbox hb; have n0_ := Zad.mk (Zal (by with_reducible repeat first | exact HB.out | apply Zac | apply Zaa | apply Zab) hb); have n1_ := Zad.mk (hbox); have n2_ := Zad.mk ((by rw [hg]; exact (Zak (by with_reducible repeat first | exact HB.out | apply Zac | apply Zaa | apply Zab)) : w.heap.size ≤ g01)); have n3_ := n2_; clear HB; have HB := n0_; have K01 := n1_; have W01 := n2_; have E01 := n3_; clear hb hbox hg) | ((with_reducible refine Zas (f := 87) rfl ?_); refine Zbg (some 15) rfl rfl Tryz.func87 (by kernel_rfl) rfl #[.string a0, .string a3] rfl (by (try simp only [List.map_toArray, List.map_cons, List.map_nil]); first | done | rfl | (simp only [List.length_drop, List.length_take]; rfl)) ?_; (with_reducible refine (Zb1.calls k a0 a3 t102 t103 t104 true _ A5.out).mono ?_); rintro e w11 ⟨v105, rfl, ho0, hb⟩; refine ⟨_, rfl, ?_⟩; have n0_ := Zad.mk (Kd.R_lower ho0 (Zak (by with_reducible repeat first | exact HB.out | apply Zac | apply Zaa | apply Zab | refine Zai ?_ E01.out))); have n1_ := Zad.mk (Zat (g := g01) (o := .cells #[.int .i64 0, .int .i64 0, .slice none 0 0] 52 (0, 0)) (by (with_reducible repeat (first | refine Zaf ?_ _ | refine Zaj ?_ | refine Zag ?_ _)); exact K01.out) hb); have n2_ := Zad.mk (Zal (by with_reducible repeat first | exact HB.out | apply Zac | apply Zaa | apply Zab | refine Zai ?_ E01.out) hb); clear K01; clear HB; have HO106 := n0_; have K01 := n1_; have HB := n2_) | ((with_reducible refine Zaz (N := 10) rfl ?_); refine Zay ?hg (N := 10) ?hd (cs := #[.int .i64 0, .int .i64 0, .slice none 0 0]) (t := 52) ?hr ?_; (case hd => rfl); (case hg => rfl); (case hr => first | (go_simp; done) | (go_simp; rfl)); intro g08 hg w12 hbox hb; have n0_ := Zad.mk (Kd.R_below (by (with_reducible repeat (first | apply Kd.R_alloc | apply Kd.R_drewN | apply Kd.R_drew)); exact HO106.out) hb); have n1_ := Zad.mk (Zat (g := g01) (o := .cells #[.int .i64 0, .int .i64 0, .slice none 0 0] 52 (0, 0)) (by (with_reducible repeat (first | refine Zaf ?_ _ | refine Zaj ?_ | refine Zag ?_ _)); exact K01.out) hb); have n2_ := Zad.mk (Zal (by with_reducible repeat first | exact HB.out | apply Zac | apply Zaa | apply Zab | refine Zai ?_ E01.out) hb); have n3_ := Zad.mk (hbox); have n4_ := Zad.mk ((by rw [hg]; exact (Zak (by with_reducible repeat first | exact HB.out | apply Zac | apply Zaa | apply Zab | refine Zai ?_ E01.out)) : w.heap.size ≤ g08)); have n5_ := Zad.mk ((by rw [hg]; exact (Zak (by with_reducible repeat first | exact HB.out | apply Zac | apply Zaa | apply Zab | refine Zai ?_ E01.out)) : w.heap.size ≤ g08)); have n6_ := Zad.mk ((by rw [hg]; exact Nat.ne_of_lt (Zcn (g := g01) (o := .cells #[.int .i64 0, .int .i64 0, .slice none 0 0] 52 (0, 0)) (by (with_reducible repeat (first | refine Zaf ?_ _ | refine Zaj ?_ | refine Zag ?_ _)); exact K01.out)) : g01 ≠ g08)); have n7_ := Zad.mk ((by rw [hg]; exact Nat.ne_of_gt (Zcn (g := g01) (o := .cells #[.int .i64 0, .int .i64 0, .slice none 0 0] 52 (0, 0)) (by (with_reducible repeat (first | refine Zaf ?_ _ | refine Zaj ?_ | refine Zag ?_ _)); exact K01.out)) : g08 ≠ g01)); clear HO106; clear K01; clear HB; have HO106 := n0_; have K01 := n1_; have HB := n2_; have K08 := n3_; have W08 := n4_; have E08 := n5_; have N01_08 := n6_; have N08_01 := n7_; clear hb hbox hg; have hnb13 := N08_01.out; have hnc13 := N01_08.out; have hcz14_0 : w12.cell? ⟨g08, 0, none⟩ = some (.int .i64 0) := (Zah K08.out 0).trans rfl; have hcz14_1 : w12.cell? ⟨g08, 1, none⟩ = some (.int .i64 0) := (Zah K08.out 1).trans rfl; have hcz14_2 : w12.cell? ⟨g08, 2, none⟩ = some (.slice none 0 0) := (Zah K08.out 2).trans rfl; have hfz14_0 := Zae K08.out 0; have hfz14_1 := Zae K08.out 1; have hfz14_2 := Zae K08.out 2; obtain ⟨Ao15, co15, eo15⟩ := Kd.R_slice HO106.out; subst eo15))
   have n0_ : Zad (Kd.R (Kd.int .u8) 5 (((w12.setCell ⟨g08, 0, none⟩ (.int .i64 t102)).setCell ⟨g08, 1, none⟩ (.int .i64 t103)).setCell ⟨g08, 2, none⟩ (.slice Ao15 t104.length co15)) w.heap.size (fun _ => True) (.slice Ao15 t104.length co15) t104) := ⟨by (with_reducible repeat (first | apply Kd.R_alloc | apply Kd.R_drewN | apply Kd.R_drew)); exact Kd.R_mono (Kd.R_far (p := ⟨g08, 2, none⟩) (Kd.R_far (p := ⟨g08, 1, none⟩) (Kd.R_far (p := ⟨g08, 0, none⟩) (Kd.R_types HO106.out K08.out (by decide)) (fun _ hk => hk.2) (.int .i64 t102)) (fun _ hk => hk.2) (.int .i64 t103)) (fun _ hk => hk.2) (.slice Ao15 t104.length co15)) (fun _ hk => trivial)⟩
   have n1_ : Zad ((((w12.setCell ⟨g08, 0, none⟩ (.int .i64 t102)).setCell ⟨g08, 1, none⟩ (.int .i64 t103)).setCell ⟨g08, 2, none⟩ (.slice Ao15 t104.length co15)).heap[g01]? = some (.cells #[.int .i64 0, .int .i64 0, .slice none 0 0] 52 (0, 0))) := ⟨by (with_reducible repeat (first | refine Zaf ?_ _ | refine Zaj ?_ | refine Zag ?_ _)); refine Zb6 ?_ N01_08.out _; (with_reducible repeat (first | refine Zaf ?_ _ | refine Zaj ?_ | refine Zag ?_ _)); refine Zb6 ?_ N01_08.out _; (with_reducible repeat (first | refine Zaf ?_ _ | refine Zaj ?_ | refine Zag ?_ _)); refine Zb6 ?_ N01_08.out _; (with_reducible repeat (first | refine Zaf ?_ _ | refine Zaj ?_ | refine Zag ?_ _)); exact K01.out⟩
   have n2_ : Zad ((((w12.setCell ⟨g08, 0, none⟩ (.int .i64 t102)).setCell ⟨g08, 1, none⟩ (.int .i64 t103)).setCell ⟨g08, 2, none⟩ (.slice Ao15 t104.length co15)).heap[g08]? = some (.cells #[.int .i64 t102, .int .i64 t103, .slice Ao15 t104.length co15] 52 (0, 0))) := ⟨by (with_reducible repeat (first | refine Zaf ?_ _ | refine Zaj ?_ | refine Zag ?_ _)); refine Zav (cs := #[.int .i64 t102, .int .i64 t103, .slice none 0 0]) ?_ 2 _ rfl; (with_reducible repeat (first | refine Zaf ?_ _ | refine Zaj ?_ | refine Zag ?_ _)); refine Zav (cs := #[.int .i64 t102, .int .i64 0, .slice none 0 0]) ?_ 1 _ rfl; (with_reducible repeat (first | refine Zaf ?_ _ | refine Zaj ?_ | refine Zag ?_ _)); refine Zav (cs := #[.int .i64 0, .int .i64 0, .slice none 0 0]) ?_ 0 _ rfl; (with_reducible repeat (first | refine Zaf ?_ _ | refine Zaj ?_ | refine Zag ?_ _)); exact K08.out⟩
   have n3_ : Zad (Below w.heap.size w (((w12.setCell ⟨g08, 0, none⟩ (.int .i64 t102)).setCell ⟨g08, 1, none⟩ (.int .i64 t103)).setCell ⟨g08, 2, none⟩ (.slice Ao15 t104.length co15))) := ⟨by with_reducible repeat first | exact HB.out | apply Zac | apply Zaa | apply Zab | refine Zai ?_ E01.out | refine Zai ?_ E08.out⟩
   (try clear HO106)
   (try clear K01)
   (try clear K08)
   (try clear HB)
   generalize (((w12.setCell ⟨g08, 0, none⟩ (.int .i64 t102)).setCell ⟨g08, 1, none⟩ (.int .i64 t103)).setCell ⟨g08, 2, none⟩ (.slice Ao15 t104.length co15)) = w16 at n0_ n1_ n2_ n3_ ⊢
   have HO106 := n0_
   have K01 := n1_
   have K08 := n2_
   have HB := n3_
   clear n0_ n1_ n2_ n3_
   have n0_ := Zad.mk (Kd.R_drew HO106.out)
   have n1_ := Zad.mk (Zaj K01.out)
   have n2_ := Zad.mk (Zaj K08.out)
   have n3_ := Zad.mk (Zab HB.out)
   clear HO106
   clear K01
   clear K08
   clear HB
   have HO106 := n0_
   have K01 := n1_
   have K08 := n2_
   have HB := n3_
   clear n0_ n1_ n2_ n3_
   refine Zgd (n := 14) (S := fun w' => w'.cell? ⟨g08, 0, none⟩ = some (.int .i64 t102) ∧ w'.cell? ⟨g08, 1, none⟩ = some (.int .i64 t103) ∧ w'.cell? ⟨g08, 2, none⟩ = some (.slice Ao15 t104.length co15)) (ds := []) #[false, false, false, false, false, false, false, false, false, false, false, false, false, false] (by kernel_rfl) rfl rfl ⟨(Zah K08.out 0).trans rfl, (Zah K08.out 1).trans rfl, (Zah K08.out 2).trans rfl⟩ (fun hHeld => ?_); refine Zdy Zbw.tab2 Zbw.bits2 (fun HT_ HW_ => ?_)
   generalize w16.drew = w17 at HO106 K01 K08 HB hHeld ⊢
   refine pure_ (i := 1) (N := some 19) (v := ?_) (a' := ?_) #[false, true, false, false, false, false, false, false, false, false, false, false, false, false] rfl rfl (Zb4 HT_.out (by kernel_rfl)) (fun _ _ _ h => h) (Or.inl ⟨by rfl, ?_⟩) ?_ ?_
   rotate_left
   ·intro w'
    go_simp
    with_reducible rfl
   rotate_left
   ·simp only [Act.put, List.setIfInBounds_toArray, List.set_cons_zero, List.set_cons_succ, i64_w, i32_w]
    rfl
   refine pure_ (i := 2) (N := some 20) (v := ?_) (a' := ?_) #[false, true, true, false, false, false, false, false, false, false, false, false, false, false] rfl rfl (Zb4 HT_.out (by kernel_rfl)) (fun _ _ _ h => h) (Or.inl ⟨by rfl, ?_⟩) ?_ ?_
   rotate_left
   ·intro w'
    go_simp
    with_reducible rfl
   rotate_left
   ·simp only [Act.put, List.setIfInBounds_toArray, List.set_cons_zero, List.set_cons_succ, i64_w, i32_w]
    rfl
   refine pure_ (i := 4) (N := some 22) (v := ?_) (a' := ?_) #[false, true, true, false, true, false, false, false, false, false, false, false, false, false] rfl rfl (Zb4 HT_.out (by kernel_rfl)) (fun _ _ _ h => h) (Or.inl ⟨by rfl, ?_⟩) ?_ ?_
   rotate_left
   ·intro w'
    go_simp
    with_reducible rfl
   rotate_left
   ·simp only [Act.put, List.setIfInBounds_toArray, List.set_cons_zero, List.set_cons_succ, i64_w, i32_w]
    rfl
   refine take_ (i := 0) (N := some 18) (v := ?_) (a' := ?_) #[true, true, true, false, true, false, false, false, false, false, false, false, false, false] rfl rfl (Zc3 HT_.out HW_.out (by kernel_rfl)) (fun _ _ _ h => h) (Or.inl ⟨by rfl, ?_⟩) hHeld ?_ ?_
   rotate_left
   ·rintro w' ⟨s0, s1, s2⟩
    go_simp
    with_reducible rfl
   rotate_left
   ·simp only [Act.put, List.setIfInBounds_toArray, List.set_cons_zero, List.set_cons_succ, i64_w, i32_w]
    rfl
   refine take_ (i := 3) (N := some 21) (v := ?_) (a' := ?_) #[true, true, true, true, true, false, false, false, false, false, false, false, false, false] rfl rfl (Zc3 HT_.out HW_.out (by kernel_rfl)) (fun _ _ _ h => h) (Or.inl ⟨by rfl, ?_⟩) hHeld ?_ ?_
   rotate_left
   ·rintro w' ⟨s0, s1, s2⟩
    go_simp
    with_reducible rfl
   rotate_left
   ·simp only [Act.put, List.setIfInBounds_toArray, List.set_cons_zero, List.set_cons_succ, i64_w, i32_w]
    rfl
   refine one_ (i := 5) (N := some 23) #[true, true, true, true, true, true, false, false, false, false, false, false, false, false] rfl rfl (Zd0 HT_.out (by kernel_rfl)) (by decide) (fun K hK => ?_)
   refine goes_ Tryz.func88 (by kernel_rfl) rfl #[.agg #[.int .i64 t102, .int .i64 t103, .slice Ao15 t104.length co15], .slice A1 l1.length c1, .int .u8 46] (by rfl) rfl rfl (by (try simp only [List.map_toArray, List.map_cons, List.map_nil]); first | done | rfl | (simp only [List.length_drop, List.length_take]; rfl)) ?_
   with_reducible refine (Zbi.calls k t102 t103 _ _ t104 _ _ l1 46 true _ ?side1 ?side2 ?side3 ?side4 A7.out).mono ?_
   (case side1 => repeat (first | exact (Kd.R_reads' HO106.out).2.2 | (with_reducible refine Kd.C_alloc ?_ _) | (with_reducible refine Kd.C_drewN ?_ _) | (with_reducible refine Kd.C_drew ?_)))
   (case side2 => exact (Kd.R_reads' HO106.out).2.1)
   (case side3 => repeat (first | exact (Kd.C_below HR1.out HB.out) | (with_reducible refine Kd.C_alloc ?_ _) | (with_reducible refine Kd.C_drewN ?_ _) | (with_reducible refine Kd.C_drew ?_)))
   (case side4 => exact HC1.out)
   rintro e w18 ⟨rfl, hb⟩
   refine ⟨_, rfl, ?_⟩
   have n0_ := Zad.mk (Kd.R_below (by (with_reducible repeat (first | apply Kd.R_alloc | apply Kd.R_drewN | apply Kd.R_drew)); exact HO106.out) hb)
   have n1_ := Zad.mk (Zat (g := g01) (o := .cells #[.int .i64 0, .int .i64 0, .slice none 0 0] 52 (0, 0)) (by (with_reducible repeat (first | refine Zaf ?_ _ | refine Zaj ?_ | refine Zag ?_ _)); exact K01.out) hb)
   have n2_ := Zad.mk (Zat (g := g08) (o := .cells #[.int .i64 t102, .int .i64 t103, .slice Ao15 t104.length co15] 52 (0, 0)) (by (with_reducible repeat (first | refine Zaf ?_ _ | refine Zaj ?_ | refine Zag ?_ _)); exact K08.out) hb)
   have n3_ := Zad.mk (Zal (by with_reducible repeat first | exact HB.out | apply Zac | apply Zaa | apply Zab | refine Zai ?_ E01.out | refine Zai ?_ E08.out) hb)
   clear HO106
   clear K01
   clear K08
   clear HB
   have HO106 := n0_
   have K01 := n1_
   have K08 := n2_
   have HB := n3_
   clear n0_ n1_ n2_ n3_
   (try clear hb)
   (try clear hb2)
   (try clear hk)
   (try clear hi)
   refine hK.out _ _ ⟨(Zah K08.out 0).trans rfl, (Zah K08.out 1).trans rfl, (Zah K08.out 2).trans rfl⟩ (fun hHeld => ?_)
   clear hK K
   refine norm_ (a' := ?_) ?_ ?_
   rotate_left
   ·show Act.put _ (some 23) _ = _
    simp only [Act.put, List.setIfInBounds_toArray, List.set_cons_zero, List.set_cons_succ, i64_w, i32_w]
    rfl
   refine pure_ (i := 6) (N := some 24) (v := ?_) (a' := ?_) #[true, true, true, true, true, true, true, false, false, false, false, false, false, false] rfl rfl (Zb4 HT_.out (by kernel_rfl)) (fun _ _ _ h => h) (Or.inl ⟨by rfl, ?_⟩) ?_ ?_
   rotate_left
   ·intro w'
    go_simp
    with_reducible rfl
   rotate_left
   ·simp only [Act.put, List.setIfInBounds_toArray, List.set_cons_zero, List.set_cons_succ, i64_w, i32_w]
    rfl
   refine pure_ (i := 7) (N := some 25) (v := ?_) (a' := ?_) #[true, true, true, true, true, true, true, true, false, false, false, false, false, false] rfl rfl (Zb4 HT_.out (by kernel_rfl)) (fun _ _ _ h => h) (Or.inl ⟨by rfl, ?_⟩) ?_ ?_
   rotate_left
   ·intro w'
    go_simp
    with_reducible rfl
   rotate_left
   ·simp only [Act.put, List.setIfInBounds_toArray, List.set_cons_zero, List.set_cons_succ, i64_w, i32_w]
    rfl
   refine pure_ (i := 9) (N := some 27) (v := ?_) (a' := ?_) #[true, true, true, true, true, true, true, true, false, true, false, false, false, false] rfl rfl (Zb4 HT_.out (by kernel_rfl)) (fun _ _ _ h => h) (Or.inl ⟨by rfl, ?_⟩) ?_ ?_
   rotate_left
   ·intro w'
    go_simp
    with_reducible rfl
   rotate_left
   ·simp only [Act.put, List.setIfInBounds_toArray, List.set_cons_zero, List.set_cons_succ, i64_w, i32_w]
    rfl
   refine take_ (i := 8) (N := some 26) (v := ?_) (a' := ?_) #[true, true, true, true, true, true, true, true, true, true, false, false, false, false] rfl rfl (Zc3 HT_.out HW_.out (by kernel_rfl)) (fun _ _ _ h => h) (Or.inl ⟨by rfl, ?_⟩) hHeld ?_ ?_
   rotate_left
   ·rintro w' ⟨s0, s1, s2⟩
    go_simp
    with_reducible rfl
   rotate_left
   ·simp only [Act.put, List.setIfInBounds_toArray, List.set_cons_zero, List.set_cons_succ, i64_w, i32_w]
    rfl
   refine one_ (i := 10) (N := some 28) #[true, true, true, true, true, true, true, true, true, true, true, false, false, false] rfl rfl (Zd0 HT_.out (by kernel_rfl)) (by decide) (fun K hK => ?_)
   refine goes_ Tryz.func88 (by kernel_rfl) rfl #[.agg #[.int .i64 t102, .int .i64 t103, .slice Ao15 t104.length co15], .slice A2 l2.length c2, .int .u8 0] (by rfl) rfl rfl (by (try simp only [List.map_toArray, List.map_cons, List.map_nil]); first | done | rfl | (simp only [List.length_drop, List.length_take]; rfl)) ?_
   with_reducible refine (Zbi.calls k t102 t103 _ _ t104 _ _ l2 0 t110 _ ?side1 ?side2 ?side3 ?side4 A9.out).mono ?_
   (case side1 => repeat (first | exact (Kd.R_reads' HO106.out).2.2 | (with_reducible refine Kd.C_alloc ?_ _) | (with_reducible refine Kd.C_drewN ?_ _) | (with_reducible refine Kd.C_drew ?_)))
   (case side2 => exact (Kd.R_reads' HO106.out).2.1)
   (case side3 => repeat (first | exact (Kd.C_below HR2.out HB.out) | (with_reducible refine Kd.C_alloc ?_ _) | (with_reducible refine Kd.C_drewN ?_ _) | (with_reducible refine Kd.C_drew ?_)))
   (case side4 => exact HC2.out)
   rintro e w19 ⟨rfl, hb⟩
   refine ⟨_, rfl, ?_⟩
   have n0_ := Zad.mk (Kd.R_below (by (with_reducible repeat (first | apply Kd.R_alloc | apply Kd.R_drewN | apply Kd.R_drew)); exact HO106.out) hb)
   have n1_ := Zad.mk (Zat (g := g01) (o := .cells #[.int .i64 0, .int .i64 0, .slice none 0 0] 52 (0, 0)) (by (with_reducible repeat (first | refine Zaf ?_ _ | refine Zaj ?_ | refine Zag ?_ _)); exact K01.out) hb)
   have n2_ := Zad.mk (Zat (g := g08) (o := .cells #[.int .i64 t102, .int .i64 t103, .slice Ao15 t104.length co15] 52 (0, 0)) (by (with_reducible repeat (first | refine Zaf ?_ _ | refine Zaj ?_ | refine Zag ?_ _)); exact K08.out) hb)
   have n3_ := Zad.mk (Zal (by with_reducible repeat first | exact HB.out | apply Zac | apply Zaa | apply Zab | refine Zai ?_ E01.out | refine Zai ?_ E08.out) hb)
   clear HO106
   clear K01
   clear K08
   clear HB
   have HO106 := n0_
   have K01 := n1_
   have K08 := n2_
   have HB := n3_
   clear n0_ n1_ n2_ n3_
   (try clear hb)
   (try clear hb2)
   (try clear hk)
   (try clear hi)
   refine hK.out _ _ ⟨(Zah K08.out 0).trans rfl, (Zah K08.out 1).trans rfl, (Zah K08.out 2).trans rfl⟩ (fun hHeld => ?_)
   clear hK K
   refine norm_ (a' := ?_) ?_ ?_
   rotate_left
   ·show Act.put _ (some 28) _ = _
    simp only [Act.put, List.setIfInBounds_toArray, List.set_cons_zero, List.set_cons_succ, i64_w, i32_w]
    rfl
   refine pure_ (i := 11) (N := some 29) (v := ?_) (a' := ?_) #[true, true, true, true, true, true, true, true, true, true, true, true, false, false] rfl rfl (Zb4 HT_.out (by kernel_rfl)) (fun _ _ _ h => h) (Or.inl ⟨by rfl, ?_⟩) ?_ ?_
   rotate_left
   ·intro w'
    go_simp
    with_reducible rfl
   rotate_left
   ·simp only [Act.put, List.setIfInBounds_toArray, List.set_cons_zero, List.set_cons_succ, i64_w, i32_w]
    rfl
   refine one_ (i := 12) (N := none) #[true, true, true, true, true, true, true, true, true, true, true, true, true, false] rfl rfl (Zd0 HT_.out (by kernel_rfl)) (by decide) (fun K hK => ?_)
   have hs20 : w19.cell? ⟨g01, 0, none⟩ = some (.int .i64 0) := (Zah K01.out 0).trans rfl
   have hfs20 := Zae K01.out 0
   have hns20_1 := N08_01.out
   have hms20_1 := N01_08.out
   have hs21 : w19.cell? ⟨g01, 1, none⟩ = some (.int .i64 0) := (Zah K01.out 1).trans rfl
   have hfs21 := Zae K01.out 1
   have hns21_1 := N08_01.out
   have hms21_1 := N01_08.out
   have hs22 : w19.cell? ⟨g01, 2, none⟩ = some (.slice none 0 0) := (Zah K01.out 2).trans rfl
   have hfs22 := Zae K01.out 2
   have hns22_1 := N08_01.out
   have hms22_1 := N01_08.out
   refine skip_ (w1 := ?_) (by rfl) rfl ?_ ?_
   rotate_left
   ·go_simp
    rfl
   refine hK.out _ _ ⟨((Za5 (p := ⟨g01, _, none⟩) N08_01.out _).trans (((Za5 (p := ⟨g01, _, none⟩) N08_01.out _).trans (((Za5 (p := ⟨g01, _, none⟩) N08_01.out _).trans (hHeld.1)))))), ((Za5 (p := ⟨g01, _, none⟩) N08_01.out _).trans (((Za5 (p := ⟨g01, _, none⟩) N08_01.out _).trans (((Za5 (p := ⟨g01, _, none⟩) N08_01.out _).trans (hHeld.2.1)))))), ((Za5 (p := ⟨g01, _, none⟩) N08_01.out _).trans (((Za5 (p := ⟨g01, _, none⟩) N08_01.out _).trans (((Za5 (p := ⟨g01, _, none⟩) N08_01.out _).trans (hHeld.2.2))))))⟩ (fun hHeld => ?_)
   clear hK K
   refine pure_ (i := 13) (N := some 9) (v := ?_) (a' := ?_) #[true, true, true, true, true, true, true, true, true, true, true, true, true, true] rfl rfl (Zb4 HT_.out (by kernel_rfl)) (fun _ _ _ h => h) (Or.inl ⟨by rfl, ?_⟩) ?_ ?_
   rotate_left
   ·intro w'
    go_simp
    with_reducible rfl
   rotate_left
   ·simp only [Act.put, List.setIfInBounds_toArray, List.set_cons_zero, List.set_cons_succ, i64_w, i32_w]
    rfl
   refine done_ (Ze5 HT_.out (by kernel_rfl)) ?_
   try go_wp2
   refine bodyPost_ret (Zct rfl _ _ g01 52 #[.int .i64 t102, .int .i64 t103, .slice Ao15 t104.length co15] (0, 0) _ rfl (by (with_reducible repeat (first | refine Zaf ?_ _ | refine Zaj ?_ | refine Zag ?_ _)); refine Zav (cs := #[.int .i64 t102, .int .i64 t103, .slice none 0 0]) ?_ 2 _ rfl; (with_reducible repeat (first | refine Zaf ?_ _ | refine Zaj ?_ | refine Zag ?_ _)); refine Zav (cs := #[.int .i64 t102, .int .i64 0, .slice none 0 0]) ?_ 1 _ rfl; (with_reducible repeat (first | refine Zaf ?_ _ | refine Zaj ?_ | refine Zag ?_ _)); refine Zav (cs := #[.int .i64 0, .int .i64 0, .slice none 0 0]) ?_ 0 _ rfl; (with_reducible repeat (first | refine Zaf ?_ _ | refine Zaj ?_ | refine Zag ?_ _)); exact K01.out) Tryz.underlying52 rfl (by kernel_rfl)) rfl ?_
   exact ⟨_, by first | rfl | (simp [Zap, Zao] <;> rfl) | (simp [*, Zap, Zao] <;> rfl), by (with_reducible repeat (first | apply Kd.R_alloc | apply Kd.R_drewN | apply Kd.R_drew)); exact Kd.R_mono (Kd.R_far (p := ⟨g01, 2, none⟩) (Kd.R_far (p := ⟨g01, 1, none⟩) (Kd.R_far (p := ⟨g01, 0, none⟩) (Kd.R_types HO106.out K01.out (by decide)) (fun _ hk => hk.2) (.int .i64 t102)) (fun _ hk => hk.2) (.int .i64 t103)) (fun _ hk => hk.2) (.slice Ao15 t104.length co15)) (fun _ hk => trivial), by repeat (first | (with_reducible first | exact HB.out | apply Zac | apply Zaa | apply Zab | refine Zai ?_ E01.out | refine Zai ?_ E08.out) | exact HB.out)⟩
  ·replace c8 := Bool.eq_false_iff.mpr c8
   subst c8
   have H1 : (some (t102, t103, t104, false)) = some (r1, r2, r3, r4) := by rw [if_neg (show ¬ (false = true) by decide)] at H; exact H
   clear H
   have H := H1
   clear H1
   simp only [Option.some.injEq, Prod.mk.injEq] at H
   obtain ⟨rfl, rfl, rfl, rfl⟩ := H
   go_enter Tryz.func44, Tryz.ntmps44
   try go_wp2_with (first | ((with_reducible refine Zaz (N := 8) rfl ?_); refine Zay ?hg (N := 8) ?hd (cs := #[.int .i64 0, .int .i64 0, .slice none 0 0]) (t := 52) ?hr ?_; (case hd => rfl); (case hg => rfl); (case hr => first | (go_simp; done) | (go_simp; rfl)); intro g01 hg w23 hbox hb; have n0_ := Zad.mk (Zal (by with_reducible repeat first | exact HB.out | apply Zac | apply Zaa | apply Zab) hb); have n1_ := Zad.mk (hbox); have n2_ := Zad.mk ((by rw [hg]; exact (Zak (by with_reducible repeat first | exact HB.out | apply Zac | apply Zaa | apply Zab)) : w.heap.size ≤ g01)); have n3_ := n2_; clear HB; have HB := n0_; have K01 := n1_; have W01 := n2_; have E01 := n3_; clear hb hbox hg) | ((with_reducible refine Zas (f := 87) rfl ?_); refine Zbg (some 15) rfl rfl Tryz.func87 (by kernel_rfl) rfl #[.string a0, .string a3] rfl (by (try simp only [List.map_toArray, List.map_cons, List.map_nil]); first | done | rfl | (simp only [List.length_drop, List.length_take]; rfl)) ?_; (with_reducible refine (Zb1.calls k a0 a3 t102 t103 t104 true _ A5.out).mono ?_); rintro e w24 ⟨v105, rfl, ho0, hb⟩; refine ⟨_, rfl, ?_⟩; have n0_ := Zad.mk (Kd.R_lower ho0 (Zak (by with_reducible repeat first | exact HB.out | apply Zac | apply Zaa | apply Zab | refine Zai ?_ E01.out))); have n1_ := Zad.mk (Zat (g := g01) (o := .cells #[.int .i64 0, .int .i64 0, .slice none 0 0] 52 (0, 0)) (by (with_reducible repeat (first | refine Zaf ?_ _ | refine Zaj ?_ | refine Zag ?_ _)); exact K01.out) hb); have n2_ := Zad.mk (Zal (by with_reducible repeat first | exact HB.out | apply Zac | apply Zaa | apply Zab | refine Zai ?_ E01.out) hb); clear K01; clear HB; have HO106 := n0_; have K01 := n1_; have HB := n2_) | ((with_reducible refine Zaz (N := 10) rfl ?_); refine Zay ?hg (N := 10) ?hd (cs := #[.int .i64 0, .int .i64 0, .slice none 0 0]) (t := 52) ?hr ?_; (case hd => rfl); (case hg => rfl); (case hr => first | (go_simp; done) | (go_simp; rfl)); intro g08 hg w25 hbox hb; have n0_ := Zad.mk (Kd.R_below (by (with_reducible repeat (first | apply Kd.R_alloc | apply Kd.R_drewN | apply Kd.R_drew)); exact HO106.out) hb); have n1_ := Zad.mk (Zat (g := g01) (o := .cells #[.int .i64 0, .int .i64 0, .slice none 0 0] 52 (0, 0)) (by (with_reducible repeat (first | refine Zaf ?_ _ | refine Zaj ?_ | refine Zag ?_ _)); exact K01.out) hb); have n2_ := Zad.mk (Zal (by with_reducible repeat first | exact HB.out | apply Zac | apply Zaa | apply Zab | refine Zai ?_ E01.out) hb); have n3_ := Zad.mk (hbox); have n4_ := Zad.mk ((by rw [hg]; exact (Zak (by with_reducible repeat first | exact HB.out | apply Zac | apply Zaa | apply Zab | refine Zai ?_ E01.out)) : w.heap.size ≤ g08)); have n5_ := Zad.mk ((by rw [hg]; exact (Zak (by with_reducible repeat first | exact HB.out | apply Zac | apply Zaa | apply Zab | refine Zai ?_ E01.out)) : w.heap.size ≤ g08)); have n6_ := Zad.mk ((by rw [hg]; exact Nat.ne_of_lt (Zcn (g := g01) (o := .cells #[.int .i64 0, .int .i64 0, .slice none 0 0] 52 (0, 0)) (by (with_reducible repeat (first | refine Zaf ?_ _ | refine Zaj ?_ | refine Zag ?_ _)); exact K01.out)) : g01 ≠ g08)); have n7_ := Zad.mk ((by rw [hg]; exact Nat.ne_of_gt (Zcn (g := g01) (o := .cells #[.int .i64 0, .int .i64 0, .slice none 0 0] 52 (0, 0)) (by (with_reducible repeat (first | refine Zaf ?_ _ | refine Zaj ?_ | refine Zag ?_ _)); exact K01.out)) : g08 ≠ g01)); clear HO106; clear K01; clear HB; have HO106 := n0_; have K01 := n1_; have HB := n2_; have K08 := n3_; have W08 := n4_; have E08 := n5_; have N01_08 := n6_; have N08_01 := n7_; clear hb hbox hg; have hnb26 := N08_01.out; have hnc26 := N01_08.out; have hcz27_0 : w25.cell? ⟨g08, 0, none⟩ = some (.int .i64 0) := (Zah K08.out 0).trans rfl; have hcz27_1 : w25.cell? ⟨g08, 1, none⟩ = some (.int .i64 0) := (Zah K08.out 1).trans rfl; have hcz27_2 : w25.cell? ⟨g08, 2, none⟩ = some (.slice none 0 0) := (Zah K08.out 2).trans rfl; have hfz27_0 := Zae K08.out 0; have hfz27_1 := Zae K08.out 1; have hfz27_2 := Zae K08.out 2; obtain ⟨Ao28, co28, eo28⟩ := Kd.R_slice HO106.out; subst eo28))
   have n0_ : Zad (Kd.R (Kd.int .u8) 5 (((w25.setCell ⟨g08, 0, none⟩ (.int .i64 t102)).setCell ⟨g08, 1, none⟩ (.int .i64 t103)).setCell ⟨g08, 2, none⟩ (.slice Ao28 t104.length co28)) w.heap.size (fun _ => True) (.slice Ao28 t104.length co28) t104) := ⟨by (with_reducible repeat (first | apply Kd.R_alloc | apply Kd.R_drewN | apply Kd.R_drew)); exact Kd.R_mono (Kd.R_far (p := ⟨g08, 2, none⟩) (Kd.R_far (p := ⟨g08, 1, none⟩) (Kd.R_far (p := ⟨g08, 0, none⟩) (Kd.R_types HO106.out K08.out (by decide)) (fun _ hk => hk.2) (.int .i64 t102)) (fun _ hk => hk.2) (.int .i64 t103)) (fun _ hk => hk.2) (.slice Ao28 t104.length co28)) (fun _ hk => trivial)⟩
   have n1_ : Zad ((((w25.setCell ⟨g08, 0, none⟩ (.int .i64 t102)).setCell ⟨g08, 1, none⟩ (.int .i64 t103)).setCell ⟨g08, 2, none⟩ (.slice Ao28 t104.length co28)).heap[g01]? = some (.cells #[.int .i64 0, .int .i64 0, .slice none 0 0] 52 (0, 0))) := ⟨by (with_reducible repeat (first | refine Zaf ?_ _ | refine Zaj ?_ | refine Zag ?_ _)); refine Zb6 ?_ N01_08.out _; (with_reducible repeat (first | refine Zaf ?_ _ | refine Zaj ?_ | refine Zag ?_ _)); refine Zb6 ?_ N01_08.out _; (with_reducible repeat (first | refine Zaf ?_ _ | refine Zaj ?_ | refine Zag ?_ _)); refine Zb6 ?_ N01_08.out _; (with_reducible repeat (first | refine Zaf ?_ _ | refine Zaj ?_ | refine Zag ?_ _)); exact K01.out⟩
   have n2_ : Zad ((((w25.setCell ⟨g08, 0, none⟩ (.int .i64 t102)).setCell ⟨g08, 1, none⟩ (.int .i64 t103)).setCell ⟨g08, 2, none⟩ (.slice Ao28 t104.length co28)).heap[g08]? = some (.cells #[.int .i64 t102, .int .i64 t103, .slice Ao28 t104.length co28] 52 (0, 0))) := ⟨by (with_reducible repeat (first | refine Zaf ?_ _ | refine Zaj ?_ | refine Zag ?_ _)); refine Zav (cs := #[.int .i64 t102, .int .i64 t103, .slice none 0 0]) ?_ 2 _ rfl; (with_reducible repeat (first | refine Zaf ?_ _ | refine Zaj ?_ | refine Zag ?_ _)); refine Zav (cs := #[.int .i64 t102, .int .i64 0, .slice none 0 0]) ?_ 1 _ rfl; (with_reducible repeat (first | refine Zaf ?_ _ | refine Zaj ?_ | refine Zag ?_ _)); refine Zav (cs := #[.int .i64 0, .int .i64 0, .slice none 0 0]) ?_ 0 _ rfl; (with_reducible repeat (first | refine Zaf ?_ _ | refine Zaj ?_ | refine Zag ?_ _)); exact K08.out⟩
   have n3_ : Zad (Below w.heap.size w (((w25.setCell ⟨g08, 0, none⟩ (.int .i64 t102)).setCell ⟨g08, 1, none⟩ (.int .i64 t103)).setCell ⟨g08, 2, none⟩ (.slice Ao28 t104.length co28))) := ⟨by with_reducible repeat first | exact HB.out | apply Zac | apply Zaa | apply Zab | refine Zai ?_ E01.out | refine Zai ?_ E08.out⟩
   (try clear HO106)
   (try clear K01)
   (try clear K08)
   (try clear HB)
   generalize (((w25.setCell ⟨g08, 0, none⟩ (.int .i64 t102)).setCell ⟨g08, 1, none⟩ (.int .i64 t103)).setCell ⟨g08, 2, none⟩ (.slice Ao28 t104.length co28)) = w29 at n0_ n1_ n2_ n3_ ⊢
   have HO106 := n0_
   have K01 := n1_
   have K08 := n2_
   have HB := n3_
   clear n0_ n1_ n2_ n3_
   have n0_ := Zad.mk (Kd.R_drew HO106.out)
   have n1_ := Zad.mk (Zaj K01.out)
   have n2_ := Zad.mk (Zaj K08.out)
   have n3_ := Zad.mk (Zab HB.out)
   clear HO106
   clear K01
   clear K08
   clear HB
   have HO106 := n0_
   have K01 := n1_
   have K08 := n2_
   have HB := n3_
   clear n0_ n1_ n2_ n3_
   refine Zgd (n := 14) (S := fun w' => w'.cell? ⟨g08, 0, none⟩ = some (.int .i64 t102) ∧ w'.cell? ⟨g08, 1, none⟩ = some (.int .i64 t103) ∧ w'.cell? ⟨g08, 2, none⟩ = some (.slice Ao28 t104.length co28)) (ds := []) #[false, false, false, false, false, false, false, false, false, false, false, false, false, false] (by kernel_rfl) rfl rfl ⟨(Zah K08.out 0).trans rfl, (Zah K08.out 1).trans rfl, (Zah K08.out 2).trans rfl⟩ (fun hHeld => ?_); refine Zdy Zbw.tab2 Zbw.bits2 (fun HT_ HW_ => ?_)
   generalize w29.drew = w30 at HO106 K01 K08 HB hHeld ⊢
   refine pure_ (i := 1) (N := some 19) (v := ?_) (a' := ?_) #[false, true, false, false, false, false, false, false, false, false, false, false, false, false] rfl rfl (Zb4 HT_.out (by kernel_rfl)) (fun _ _ _ h => h) (Or.inl ⟨by rfl, ?_⟩) ?_ ?_
   rotate_left
   ·intro w'
    go_simp
    with_reducible rfl
   rotate_left
   ·simp only [Act.put, List.setIfInBounds_toArray, List.set_cons_zero, List.set_cons_succ, i64_w, i32_w]
    rfl
   refine pure_ (i := 2) (N := some 20) (v := ?_) (a' := ?_) #[false, true, true, false, false, false, false, false, false, false, false, false, false, false] rfl rfl (Zb4 HT_.out (by kernel_rfl)) (fun _ _ _ h => h) (Or.inl ⟨by rfl, ?_⟩) ?_ ?_
   rotate_left
   ·intro w'
    go_simp
    with_reducible rfl
   rotate_left
   ·simp only [Act.put, List.setIfInBounds_toArray, List.set_cons_zero, List.set_cons_succ, i64_w, i32_w]
    rfl
   refine pure_ (i := 4) (N := some 22) (v := ?_) (a' := ?_) #[false, true, true, false, true, false, false, false, false, false, false, false, false, false] rfl rfl (Zb4 HT_.out (by kernel_rfl)) (fun _ _ _ h => h) (Or.inl ⟨by rfl, ?_⟩) ?_ ?_
   rotate_left
   ·intro w'
    go_simp
    with_reducible rfl
   rotate_left
   ·simp only [Act.put, List.setIfInBounds_toArray, List.set_cons_zero, List.set_cons_succ, i64_w, i32_w]
    rfl
   refine take_ (i := 0) (N := some 18) (v := ?_) (a' := ?_) #[true, true, true, false, true, false, false, false, false, false, false, false, false, false] rfl rfl (Zc3 HT_.out HW_.out (by kernel_rfl)) (fun _ _ _ h => h) (Or.inl ⟨by rfl, ?_⟩) hHeld ?_ ?_
   rotate_left
   ·rintro w' ⟨s0, s1, s2⟩
    go_simp
    with_reducible rfl
   rotate_left
   ·simp only [Act.put, List.setIfInBounds_toArray, List.set_cons_zero, List.set_cons_succ, i64_w, i32_w]
    rfl
   refine take_ (i := 3) (N := some 21) (v := ?_) (a' := ?_) #[true, true, true, true, true, false, false, false, false, false, false, false, false, false] rfl rfl (Zc3 HT_.out HW_.out (by kernel_rfl)) (fun _ _ _ h => h) (Or.inl ⟨by rfl, ?_⟩) hHeld ?_ ?_
   rotate_left
   ·rintro w' ⟨s0, s1, s2⟩
    go_simp
    with_reducible rfl
   rotate_left
   ·simp only [Act.put, List.setIfInBounds_toArray, List.set_cons_zero, List.set_cons_succ, i64_w, i32_w]
    rfl
   refine one_ (i := 5) (N := some 23) #[true, true, true, true, true, true, false, false, false, false, false, false, false, false] rfl rfl (Zd0 HT_.out (by kernel_rfl)) (by decide) (fun K hK => ?_)
   refine goes_ Tryz.func88 (by kernel_rfl) rfl #[.agg #[.int .i64 t102, .int .i64 t103, .slice Ao28 t104.length co28], .slice A1 l1.length c1, .int .u8 46] (by rfl) rfl rfl (by (try simp only [List.map_toArray, List.map_cons, List.map_nil]); first | done | rfl | (simp only [List.length_drop, List.length_take]; rfl)) ?_
   with_reducible refine (Zbi.calls k t102 t103 _ _ t104 _ _ l1 46 false _ ?side1 ?side2 ?side3 ?side4 A7.out).mono ?_
   (case side1 => repeat (first | exact (Kd.R_reads' HO106.out).2.2 | (with_reducible refine Kd.C_alloc ?_ _) | (with_reducible refine Kd.C_drewN ?_ _) | (with_reducible refine Kd.C_drew ?_)))
   (case side2 => exact (Kd.R_reads' HO106.out).2.1)
   (case side3 => repeat (first | exact (Kd.C_below HR1.out HB.out) | (with_reducible refine Kd.C_alloc ?_ _) | (with_reducible refine Kd.C_drewN ?_ _) | (with_reducible refine Kd.C_drew ?_)))
   (case side4 => exact HC1.out)
   rintro e w31 ⟨rfl, hb⟩
   refine ⟨_, rfl, ?_⟩
   have n0_ := Zad.mk (Kd.R_below (by (with_reducible repeat (first | apply Kd.R_alloc | apply Kd.R_drewN | apply Kd.R_drew)); exact HO106.out) hb)
   have n1_ := Zad.mk (Zat (g := g01) (o := .cells #[.int .i64 0, .int .i64 0, .slice none 0 0] 52 (0, 0)) (by (with_reducible repeat (first | refine Zaf ?_ _ | refine Zaj ?_ | refine Zag ?_ _)); exact K01.out) hb)
   have n2_ := Zad.mk (Zat (g := g08) (o := .cells #[.int .i64 t102, .int .i64 t103, .slice Ao28 t104.length co28] 52 (0, 0)) (by (with_reducible repeat (first | refine Zaf ?_ _ | refine Zaj ?_ | refine Zag ?_ _)); exact K08.out) hb)
   have n3_ := Zad.mk (Zal (by with_reducible repeat first | exact HB.out | apply Zac | apply Zaa | apply Zab | refine Zai ?_ E01.out | refine Zai ?_ E08.out) hb)
   clear HO106
   clear K01
   clear K08
   clear HB
   have HO106 := n0_
   have K01 := n1_
   have K08 := n2_
   have HB := n3_
   clear n0_ n1_ n2_ n3_
   (try clear hb)
   (try clear hb2)
   (try clear hk)
   (try clear hi)
   refine hK.out _ _ ⟨(Zah K08.out 0).trans rfl, (Zah K08.out 1).trans rfl, (Zah K08.out 2).trans rfl⟩ (fun hHeld => ?_)
   clear hK K
   refine norm_ (a' := ?_) ?_ ?_
   rotate_left
   ·show Act.put _ (some 23) _ = _
    simp only [Act.put, List.setIfInBounds_toArray, List.set_cons_zero, List.set_cons_succ, i64_w, i32_w]
    rfl
   refine pure_ (i := 6) (N := some 24) (v := ?_) (a' := ?_) #[true, true, true, true, true, true, true, false, false, false, false, false, false, false] rfl rfl (Zb4 HT_.out (by kernel_rfl)) (fun _ _ _ h => h) (Or.inl ⟨by rfl, ?_⟩) ?_ ?_
   rotate_left
   ·intro w'
    go_simp
    with_reducible rfl
   rotate_left
   ·simp only [Act.put, List.setIfInBounds_toArray, List.set_cons_zero, List.set_cons_succ, i64_w, i32_w]
    rfl
   refine pure_ (i := 7) (N := some 25) (v := ?_) (a' := ?_) #[true, true, true, true, true, true, true, true, false, false, false, false, false, false] rfl rfl (Zb4 HT_.out (by kernel_rfl)) (fun _ _ _ h => h) (Or.inl ⟨by rfl, ?_⟩) ?_ ?_
   rotate_left
   ·intro w'
    go_simp
    with_reducible rfl
   rotate_left
   ·simp only [Act.put, List.setIfInBounds_toArray, List.set_cons_zero, List.set_cons_succ, i64_w, i32_w]
    rfl
   refine pure_ (i := 8) (N := some 26) (v := undef) (a' := ?_) #[true, true, true, true, true, true, true, true, true, false, false, false, false, false] rfl rfl (Zb4 HT_.out (by kernel_rfl)) (fun _ _ _ h => h) (Or.inr ⟨by rfl, rfl⟩) ?_ ?_
   rotate_left
   ·simp only [Act.put, List.setIfInBounds_toArray, List.set_cons_zero, List.set_cons_succ, i64_w, i32_w]
    rfl
   refine pure_ (i := 9) (N := some 27) (v := undef) (a' := ?_) #[true, true, true, true, true, true, true, true, true, true, false, false, false, false] rfl rfl (Zb4 HT_.out (by kernel_rfl)) (fun _ _ _ h => h) (Or.inr ⟨by rfl, rfl⟩) ?_ ?_
   rotate_left
   ·simp only [Act.put, List.setIfInBounds_toArray, List.set_cons_zero, List.set_cons_succ, i64_w, i32_w]
    rfl
   refine pure_ (i := 10) (N := some 28) (v := undef) (a' := ?_) #[true, true, true, true, true, true, true, true, true, true, true, false, false, false] rfl rfl (Zb4 HT_.out (by kernel_rfl)) (fun _ _ _ h => h) (Or.inr ⟨by rfl, rfl⟩) ?_ ?_
   rotate_left
   ·simp only [Act.put, List.setIfInBounds_toArray, List.set_cons_zero, List.set_cons_succ, i64_w, i32_w]
    rfl
   refine pure_ (i := 11) (N := some 29) (v := ?_) (a' := ?_) #[true, true, true, true, true, true, true, true, true, true, true, true, false, false] rfl rfl (Zb4 HT_.out (by kernel_rfl)) (fun _ _ _ h => h) (Or.inl ⟨by rfl, ?_⟩) ?_ ?_
   rotate_left
   ·intro w'
    go_simp
    with_reducible rfl
   rotate_left
   ·simp only [Act.put, List.setIfInBounds_toArray, List.set_cons_zero, List.set_cons_succ, i64_w, i32_w]
    rfl
   refine one_ (i := 12) (N := none) #[true, true, true, true, true, true, true, true, true, true, true, true, true, false] rfl rfl (Zd0 HT_.out (by kernel_rfl)) (by decide) (fun K hK => ?_)
   have hs32 : w31.cell? ⟨g01, 0, none⟩ = some (.int .i64 0) := (Zah K01.out 0).trans rfl
   have hfs32 := Zae K01.out 0
   have hns32_1 := N08_01.out
   have hms32_1 := N01_08.out
   have hs33 : w31.cell? ⟨g01, 1, none⟩ = some (.int .i64 0) := (Zah K01.out 1).trans rfl
   have hfs33 := Zae K01.out 1
   have hns33_1 := N08_01.out
   have hms33_1 := N01_08.out
   have hs34 : w31.cell? ⟨g01, 2, none⟩ = some (.slice none 0 0) := (Zah K01.out 2).trans rfl
   have hfs34 := Zae K01.out 2
   have hns34_1 := N08_01.out
   have hms34_1 := N01_08.out
   refine skip_ (w1 := ?_) (by rfl) rfl ?_ ?_
   rotate_left
   ·go_simp
    rfl
   refine hK.out _ _ ⟨((Za5 (p := ⟨g01, _, none⟩) N08_01.out _).trans (((Za5 (p := ⟨g01, _, none⟩) N08_01.out _).trans (((Za5 (p := ⟨g01, _, none⟩) N08_01.out _).trans (hHeld.1)))))), ((Za5 (p := ⟨g01, _, none⟩) N08_01.out _).trans (((Za5 (p := ⟨g01, _, none⟩) N08_01.out _).trans (((Za5 (p := ⟨g01, _, none⟩) N08_01.out _).trans (hHeld.2.1)))))), ((Za5 (p := ⟨g01, _, none⟩) N08_01.out _).trans (((Za5 (p := ⟨g01, _, none⟩) N08_01.out _).trans (((Za5 (p := ⟨g01, _, none⟩) N08_01.out _).trans (hHeld.2.2))))))⟩ (fun hHeld => ?_)
   clear hK K
   refine pure_ (i := 13) (N := some 9) (v := ?_) (a' := ?_) #[true, true, true, true, true, true, true, true, true, true, true, true, true, true] rfl rfl (Zb4 HT_.out (by kernel_rfl)) (fun _ _ _ h => h) (Or.inl ⟨by rfl, ?_⟩) ?_ ?_
   rotate_left
   ·intro w'
    go_simp
    with_reducible rfl
   rotate_left
   ·simp only [Act.put, List.setIfInBounds_toArray, List.set_cons_zero, List.set_cons_succ, i64_w, i32_w]
    rfl
   refine done_ (Ze5 HT_.out (by kernel_rfl)) ?_
   try go_wp2
   refine bodyPost_ret (Zct rfl _ _ g01 52 #[.int .i64 t102, .int .i64 t103, .slice Ao28 t104.length co28] (0, 0) _ rfl (by (with_reducible repeat (first | refine Zaf ?_ _ | refine Zaj ?_ | refine Zag ?_ _)); refine Zav (cs := #[.int .i64 t102, .int .i64 t103, .slice none 0 0]) ?_ 2 _ rfl; (with_reducible repeat (first | refine Zaf ?_ _ | refine Zaj ?_ | refine Zag ?_ _)); refine Zav (cs := #[.int .i64 t102, .int .i64 0, .slice none 0 0]) ?_ 1 _ rfl; (with_reducible repeat (first | refine Zaf ?_ _ | refine Zaj ?_ | refine Zag ?_ _)); refine Zav (cs := #[.int .i64 0, .int .i64 0, .slice none 0 0]) ?_ 0 _ rfl; (with_reducible repeat (first | refine Zaf ?_ _ | refine Zaj ?_ | refine Zag ?_ _)); exact K01.out) Tryz.underlying52 rfl (by kernel_rfl)) rfl ?_
   exact ⟨_, by first | rfl | (simp [Zap, Zao] <;> rfl) | (simp [*, Zap, Zao] <;> rfl), by (with_reducible repeat (first | apply Kd.R_alloc | apply Kd.R_drewN | apply Kd.R_drew)); exact Kd.R_mono (Kd.R_far (p := ⟨g01, 2, none⟩) (Kd.R_far (p := ⟨g01, 1, none⟩) (Kd.R_far (p := ⟨g01, 0, none⟩) (Kd.R_types HO106.out K01.out (by decide)) (fun _ hk => hk.2) (.int .i64 t102)) (fun _ hk => hk.2) (.int .i64 t103)) (fun _ hk => hk.2) (.slice Ao28 t104.length co28)) (fun _ hk => trivial), by repeat (first | (with_reducible first | exact HB.out | apply Zac | apply Zaa | apply Zab | refine Zai ?_ E01.out | refine Zai ?_ E08.out) | exact HB.out)⟩
 ·replace c6 := Bool.eq_false_iff.mpr c6
  subst c6
  have H1 : (some (t102, t103, t104, false)) = some (r1, r2, r3, r4) := by rw [if_neg (show ¬ (false = true) by decide)] at H; exact H
  clear H
  have H := H1
  clear H1
  simp only [Option.some.injEq, Prod.mk.injEq] at H
  obtain ⟨rfl, rfl, rfl, rfl⟩ := H
  go_enter Tryz.func44, Tryz.ntmps44
  try go_wp2_with (first | ((with_reducible refine Zaz (N := 8) rfl ?_); refine Zay ?hg (N := 8) ?hd (cs := #[.int .i64 0, .int .i64 0, .slice none 0 0]) (t := 52) ?hr ?_; (case hd => rfl); (case hg => rfl); (case hr => first | (go_simp; done) | (go_simp; rfl)); intro g01 hg w35 hbox hb; have n0_ := Zad.mk (Zal (by with_reducible repeat first | exact HB.out | apply Zac | apply Zaa | apply Zab) hb); have n1_ := Zad.mk (hbox); have n2_ := Zad.mk ((by rw [hg]; exact (Zak (by with_reducible repeat first | exact HB.out | apply Zac | apply Zaa | apply Zab)) : w.heap.size ≤ g01)); have n3_ := n2_; clear HB; have HB := n0_; have K01 := n1_; have W01 := n2_; have E01 := n3_; clear hb hbox hg) | ((with_reducible refine Zas (f := 87) rfl ?_); refine Zbg (some 15) rfl rfl Tryz.func87 (by kernel_rfl) rfl #[.string a0, .string a3] rfl (by (try simp only [List.map_toArray, List.map_cons, List.map_nil]); first | done | rfl | (simp only [List.length_drop, List.length_take]; rfl)) ?_; (with_reducible refine (Zb1.calls k a0 a3 t102 t103 t104 false _ A5.out).mono ?_); rintro e w36 ⟨v105, rfl, ho0, hb⟩; refine ⟨_, rfl, ?_⟩; have n0_ := Zad.mk (Kd.R_lower ho0 (Zak (by with_reducible repeat first | exact HB.out | apply Zac | apply Zaa | apply Zab | refine Zai ?_ E01.out))); have n1_ := Zad.mk (Zat (g := g01) (o := .cells #[.int .i64 0, .int .i64 0, .slice none 0 0] 52 (0, 0)) (by (with_reducible repeat (first | refine Zaf ?_ _ | refine Zaj ?_ | refine Zag ?_ _)); exact K01.out) hb); have n2_ := Zad.mk (Zal (by with_reducible repeat first | exact HB.out | apply Zac | apply Zaa | apply Zab | refine Zai ?_ E01.out) hb); clear K01; clear HB; have HO106 := n0_; have K01 := n1_; have HB := n2_) | ((with_reducible refine Zaz (N := 10) rfl ?_); refine Zay ?hg (N := 10) ?hd (cs := #[.int .i64 0, .int .i64 0, .slice none 0 0]) (t := 52) ?hr ?_; (case hd => rfl); (case hg => rfl); (case hr => first | (go_simp; done) | (go_simp; rfl)); intro g08 hg w37 hbox hb; have n0_ := Zad.mk (Kd.R_below (by (with_reducible repeat (first | apply Kd.R_alloc | apply Kd.R_drewN | apply Kd.R_drew)); exact HO106.out) hb); have n1_ := Zad.mk (Zat (g := g01) (o := .cells #[.int .i64 0, .int .i64 0, .slice none 0 0] 52 (0, 0)) (by (with_reducible repeat (first | refine Zaf ?_ _ | refine Zaj ?_ | refine Zag ?_ _)); exact K01.out) hb); have n2_ := Zad.mk (Zal (by with_reducible repeat first | exact HB.out | apply Zac | apply Zaa | apply Zab | refine Zai ?_ E01.out) hb); have n3_ := Zad.mk (hbox); have n4_ := Zad.mk ((by rw [hg]; exact (Zak (by with_reducible repeat first | exact HB.out | apply Zac | apply Zaa | apply Zab | refine Zai ?_ E01.out)) : w.heap.size ≤ g08)); have n5_ := Zad.mk ((by rw [hg]; exact (Zak (by with_reducible repeat first | exact HB.out | apply Zac | apply Zaa | apply Zab | refine Zai ?_ E01.out)) : w.heap.size ≤ g08)); have n6_ := Zad.mk ((by rw [hg]; exact Nat.ne_of_lt (Zcn (g := g01) (o := .cells #[.int .i64 0, .int .i64 0, .slice none 0 0] 52 (0, 0)) (by (with_reducible repeat (first | refine Zaf ?_ _ | refine Zaj ?_ | refine Zag ?_ _)); exact K01.out)) : g01 ≠ g08)); have n7_ := Zad.mk ((by rw [hg]; exact Nat.ne_of_gt (Zcn (g := g01) (o := .cells #[.int .i64 0, .int .i64 0, .slice none 0 0] 52 (0, 0)) (by (with_reducible repeat (first | refine Zaf ?_ _ | refine Zaj ?_ | refine Zag ?_ _)); exact K01.out)) : g08 ≠ g01)); clear HO106; clear K01; clear HB; have HO106 := n0_; have K01 := n1_; have HB := n2_; have K08 := n3_; have W08 := n4_; have E08 := n5_; have N01_08 := n6_; have N08_01 := n7_; clear hb hbox hg; have hnb38 := N08_01.out; have hnc38 := N01_08.out; have hcz39_0 : w37.cell? ⟨g08, 0, none⟩ = some (.int .i64 0) := (Zah K08.out 0).trans rfl; have hcz39_1 : w37.cell? ⟨g08, 1, none⟩ = some (.int .i64 0) := (Zah K08.out 1).trans rfl; have hcz39_2 : w37.cell? ⟨g08, 2, none⟩ = some (.slice none 0 0) := (Zah K08.out 2).trans rfl; have hfz39_0 := Zae K08.out 0; have hfz39_1 := Zae K08.out 1; have hfz39_2 := Zae K08.out 2; obtain ⟨Ao40, co40, eo40⟩ := Kd.R_slice HO106.out; subst eo40))
  have n0_ : Zad (Kd.R (Kd.int .u8) 5 (((w37.setCell ⟨g08, 0, none⟩ (.int .i64 t102)).setCell ⟨g08, 1, none⟩ (.int .i64 t103)).setCell ⟨g08, 2, none⟩ (.slice Ao40 t104.length co40)) w.heap.size (fun _ => True) (.slice Ao40 t104.length co40) t104) := ⟨by (with_reducible repeat (first | apply Kd.R_alloc | apply Kd.R_drewN | apply Kd.R_drew)); exact Kd.R_mono (Kd.R_far (p := ⟨g08, 2, none⟩) (Kd.R_far (p := ⟨g08, 1, none⟩) (Kd.R_far (p := ⟨g08, 0, none⟩) (Kd.R_types HO106.out K08.out (by decide)) (fun _ hk => hk.2) (.int .i64 t102)) (fun _ hk => hk.2) (.int .i64 t103)) (fun _ hk => hk.2) (.slice Ao40 t104.length co40)) (fun _ hk => trivial)⟩
  have n1_ : Zad ((((w37.setCell ⟨g08, 0, none⟩ (.int .i64 t102)).setCell ⟨g08, 1, none⟩ (.int .i64 t103)).setCell ⟨g08, 2, none⟩ (.slice Ao40 t104.length co40)).heap[g01]? = some (.cells #[.int .i64 0, .int .i64 0, .slice none 0 0] 52 (0, 0))) := ⟨by (with_reducible repeat (first | refine Zaf ?_ _ | refine Zaj ?_ | refine Zag ?_ _)); refine Zb6 ?_ N01_08.out _; (with_reducible repeat (first | refine Zaf ?_ _ | refine Zaj ?_ | refine Zag ?_ _)); refine Zb6 ?_ N01_08.out _; (with_reducible repeat (first | refine Zaf ?_ _ | refine Zaj ?_ | refine Zag ?_ _)); refine Zb6 ?_ N01_08.out _; (with_reducible repeat (first | refine Zaf ?_ _ | refine Zaj ?_ | refine Zag ?_ _)); exact K01.out⟩
  have n2_ : Zad ((((w37.setCell ⟨g08, 0, none⟩ (.int .i64 t102)).setCell ⟨g08, 1, none⟩ (.int .i64 t103)).setCell ⟨g08, 2, none⟩ (.slice Ao40 t104.length co40)).heap[g08]? = some (.cells #[.int .i64 t102, .int .i64 t103, .slice Ao40 t104.length co40] 52 (0, 0))) := ⟨by (with_reducible repeat (first | refine Zaf ?_ _ | refine Zaj ?_ | refine Zag ?_ _)); refine Zav (cs := #[.int .i64 t102, .int .i64 t103, .slice none 0 0]) ?_ 2 _ rfl; (with_reducible repeat (first | refine Zaf ?_ _ | refine Zaj ?_ | refine Zag ?_ _)); refine Zav (cs := #[.int .i64 t102, .int .i64 0, .slice none 0 0]) ?_ 1 _ rfl; (with_reducible repeat (first | refine Zaf ?_ _ | refine Zaj ?_ | refine Zag ?_ _)); refine Zav (cs := #[.int .i64 0, .int .i64 0, .slice none 0 0]) ?_ 0 _ rfl; (with_reducible repeat (first | refine Zaf ?_ _ | refine Zaj ?_ | refine Zag ?_ _)); exact K08.out⟩
  have n3_ : Zad (Below w.heap.size w (((w37.setCell ⟨g08, 0, none⟩ (.int .i64 t102)).setCell ⟨g08, 1, none⟩ (.int .i64 t103)).setCell ⟨g08, 2, none⟩ (.slice Ao40 t104.length co40))) := ⟨by with_reducible repeat first | exact HB.out | apply Zac | apply Zaa | apply Zab | refine Zai ?_ E01.out | refine Zai ?_ E08.out⟩
  (try clear HO106)
  (try clear K01)
  (try clear K08)
  (try clear HB)
  generalize (((w37.setCell ⟨g08, 0, none⟩ (.int .i64 t102)).setCell ⟨g08, 1, none⟩ (.int .i64 t103)).setCell ⟨g08, 2, none⟩ (.slice Ao40 t104.length co40)) = w41 at n0_ n1_ n2_ n3_ ⊢
  have HO106 := n0_
  have K01 := n1_
  have K08 := n2_
  have HB := n3_
  clear n0_ n1_ n2_ n3_
  have n0_ := Zad.mk (Kd.R_drew HO106.out)
  have n1_ := Zad.mk (Zaj K01.out)
  have n2_ := Zad.mk (Zaj K08.out)
  have n3_ := Zad.mk (Zab HB.out)
  clear HO106
  clear K01
  clear K08
  clear HB
  have HO106 := n0_
  have K01 := n1_
  have K08 := n2_
  have HB := n3_
  clear n0_ n1_ n2_ n3_
  refine Zgd (n := 14) (S := fun w' => w'.cell? ⟨g08, 0, none⟩ = some (.int .i64 t102) ∧ w'.cell? ⟨g08, 1, none⟩ = some (.int .i64 t103) ∧ w'.cell? ⟨g08, 2, none⟩ = some (.slice Ao40 t104.length co40)) (ds := []) #[false, false, false, false, false, false, false, false, false, false, false, false, false, false] (by kernel_rfl) rfl rfl ⟨(Zah K08.out 0).trans rfl, (Zah K08.out 1).trans rfl, (Zah K08.out 2).trans rfl⟩ (fun hHeld => ?_); refine Zdy Zbw.tab2 Zbw.bits2 (fun HT_ HW_ => ?_)
  generalize w41.drew = w42 at HO106 K01 K08 HB hHeld ⊢
  refine pure_ (i := 1) (N := some 19) (v := ?_) (a' := ?_) #[false, true, false, false, false, false, false, false, false, false, false, false, false, false] rfl rfl (Zb4 HT_.out (by kernel_rfl)) (fun _ _ _ h => h) (Or.inl ⟨by rfl, ?_⟩) ?_ ?_
  rotate_left
  ·intro w'
   go_simp
   with_reducible rfl
  rotate_left
  ·simp only [Act.put, List.setIfInBounds_toArray, List.set_cons_zero, List.set_cons_succ, i64_w, i32_w]
   rfl
  refine pure_ (i := 2) (N := some 20) (v := ?_) (a' := ?_) #[false, true, true, false, false, false, false, false, false, false, false, false, false, false] rfl rfl (Zb4 HT_.out (by kernel_rfl)) (fun _ _ _ h => h) (Or.inl ⟨by rfl, ?_⟩) ?_ ?_
  rotate_left
  ·intro w'
   go_simp
   with_reducible rfl
  rotate_left
  ·simp only [Act.put, List.setIfInBounds_toArray, List.set_cons_zero, List.set_cons_succ, i64_w, i32_w]
   rfl
  refine pure_ (i := 3) (N := some 21) (v := undef) (a' := ?_) #[false, true, true, true, false, false, false, false, false, false, false, false, false, false] rfl rfl (Zb4 HT_.out (by kernel_rfl)) (fun _ _ _ h => h) (Or.inr ⟨by rfl, rfl⟩) ?_ ?_
  rotate_left
  ·simp only [Act.put, List.setIfInBounds_toArray, List.set_cons_zero, List.set_cons_succ, i64_w, i32_w]
   rfl
  refine pure_ (i := 4) (N := some 22) (v := undef) (a' := ?_) #[false, true, true, true, true, false, false, false, false, false, false, false, false, false] rfl rfl (Zb4 HT_.out (by kernel_rfl)) (fun _ _ _ h => h) (Or.inr ⟨by rfl, rfl⟩) ?_ ?_
  rotate_left
  ·simp only [Act.put, List.setIfInBounds_toArray, List.set_cons_zero, List.set_cons_succ, i64_w, i32_w]
   rfl
  refine pure_ (i := 5) (N := some 23) (v := undef) (a' := ?_) #[false, true, true, true, true, true, false, false, false, false, false, false, false, false] rfl rfl (Zb4 HT_.out (by kernel_rfl)) (fun _ _ _ h => h) (Or.inr ⟨by rfl, rfl⟩) ?_ ?_
  rotate_left
  ·simp only [Act.put, List.setIfInBounds_toArray, List.set_cons_zero, List.set_cons_succ, i64_w, i32_w]
   rfl
  refine pure_ (i := 6) (N := some 24) (v := ?_) (a' := ?_) #[false, true, true, true, true, true, true, false, false, false, false, false, false, false] rfl rfl (Zb4 HT_.out (by kernel_rfl)) (fun _ _ _ h => h) (Or.inl ⟨by rfl, ?_⟩) ?_ ?_
  rotate_left
  ·intro w'
   go_simp
   with_reducible rfl
  rotate_left
  ·simp only [Act.put, List.setIfInBounds_toArray, List.set_cons_zero, List.set_cons_succ, i64_w, i32_w]
   rfl
  refine pure_ (i := 7) (N := some 25) (v := ?_) (a' := ?_) #[false, true, true, true, true, true, true, true, false, false, false, false, false, false] rfl rfl (Zb4 HT_.out (by kernel_rfl)) (fun _ _ _ h => h) (Or.inl ⟨by rfl, ?_⟩) ?_ ?_
  rotate_left
  ·intro w'
   go_simp
   with_reducible rfl
  rotate_left
  ·simp only [Act.put, List.setIfInBounds_toArray, List.set_cons_zero, List.set_cons_succ, i64_w, i32_w]
   rfl
  refine pure_ (i := 8) (N := some 26) (v := undef) (a' := ?_) #[false, true, true, true, true, true, true, true, true, false, false, false, false, false] rfl rfl (Zb4 HT_.out (by kernel_rfl)) (fun _ _ _ h => h) (Or.inr ⟨by rfl, rfl⟩) ?_ ?_
  rotate_left
  ·simp only [Act.put, List.setIfInBounds_toArray, List.set_cons_zero, List.set_cons_succ, i64_w, i32_w]
   rfl
  refine pure_ (i := 9) (N := some 27) (v := undef) (a' := ?_) #[false, true, true, true, true, true, true, true, true, true, false, false, false, false] rfl rfl (Zb4 HT_.out (by kernel_rfl)) (fun _ _ _ h => h) (Or.inr ⟨by rfl, rfl⟩) ?_ ?_
  rotate_left
  ·simp only [Act.put, List.setIfInBounds_toArray, List.set_cons_zero, List.set_cons_succ, i64_w, i32_w]
   rfl
  refine pure_ (i := 10) (N := some 28) (v := undef) (a' := ?_) #[false, true, true, true, true, true, true, true, true, true, true, false, false, false] rfl rfl (Zb4 HT_.out (by kernel_rfl)) (fun _ _ _ h => h) (Or.inr ⟨by rfl, rfl⟩) ?_ ?_
  rotate_left
  ·simp only [Act.put, List.setIfInBounds_toArray, List.set_cons_zero, List.set_cons_succ, i64_w, i32_w]
   rfl
  refine pure_ (i := 11) (N := some 29) (v := ?_) (a' := ?_) #[false, true, true, true, true, true, true, true, true, true, true, true, false, false] rfl rfl (Zb4 HT_.out (by kernel_rfl)) (fun _ _ _ h => h) (Or.inl ⟨by rfl, ?_⟩) ?_ ?_
  rotate_left
  ·intro w'
   go_simp
   with_reducible rfl
  rotate_left
  ·simp only [Act.put, List.setIfInBounds_toArray, List.set_cons_zero, List.set_cons_succ, i64_w, i32_w]
   rfl
  refine take_ (i := 0) (N := some 18) (v := ?_) (a' := ?_) #[true, true, true, true, true, true, true, true, true, true, true, true, false, false] rfl rfl (Zc3 HT_.out HW_.out (by kernel_rfl)) (fun _ _ _ h => h) (Or.inl ⟨by rfl, ?_⟩) hHeld ?_ ?_
  rotate_left
  ·rintro w' ⟨s0, s1, s2⟩
   go_simp
   with_reducible rfl
  rotate_left
  ·simp only [Act.put, List.setIfInBounds_toArray, List.set_cons_zero, List.set_cons_succ, i64_w, i32_w]
   rfl
  refine one_ (i := 12) (N := none) #[true, true, true, true, true, true, true, true, true, true, true, true, true, false] rfl rfl (Zd0 HT_.out (by kernel_rfl)) (by decide) (fun K hK => ?_)
  have hs43 : w42.cell? ⟨g01, 0, none⟩ = some (.int .i64 0) := (Zah K01.out 0).trans rfl
  have hfs43 := Zae K01.out 0
  have hns43_1 := N08_01.out
  have hms43_1 := N01_08.out
  have hs44 : w42.cell? ⟨g01, 1, none⟩ = some (.int .i64 0) := (Zah K01.out 1).trans rfl
  have hfs44 := Zae K01.out 1
  have hns44_1 := N08_01.out
  have hms44_1 := N01_08.out
  have hs45 : w42.cell? ⟨g01, 2, none⟩ = some (.slice none 0 0) := (Zah K01.out 2).trans rfl
  have hfs45 := Zae K01.out 2
  have hns45_1 := N08_01.out
  have hms45_1 := N01_08.out
  refine skip_ (w1 := ?_) (by rfl) rfl ?_ ?_
  rotate_left
  ·go_simp
   rfl
  refine hK.out _ _ ⟨((Za5 (p := ⟨g01, _, none⟩) N08_01.out _).trans (((Za5 (p := ⟨g01, _, none⟩) N08_01.out _).trans (((Za5 (p := ⟨g01, _, none⟩) N08_01.out _).trans (hHeld.1)))))), ((Za5 (p := ⟨g01, _, none⟩) N08_01.out _).trans (((Za5 (p := ⟨g01, _, none⟩) N08_01.out _).trans (((Za5 (p := ⟨g01, _, none⟩) N08_01.out _).trans (hHeld.2.1)))))), ((Za5 (p := ⟨g01, _, none⟩) N08_01.out _).trans (((Za5 (p := ⟨g01, _, none⟩) N08_01.out _).trans (((Za5 (p := ⟨g01, _, none⟩) N08_01.out _).trans (hHeld.2.2))))))⟩ (fun hHeld => ?_)
  clear hK K
  refine pure_ (i := 13) (N := some 9) (v := ?_) (a' := ?_) #[true, true, true, true, true, true, true, true, true, true, true, true, true, true] rfl rfl (Zb4 HT_.out (by kernel_rfl)) (fun _ _ _ h => h) (Or.inl ⟨by rfl, ?_⟩) ?_ ?_
  rotate_left
  ·intro w'
   go_simp
   with_reducible rfl
  rotate_left
  ·simp only [Act.put, List.setIfInBounds_toArray, List.set_cons_zero, List.set_cons_succ, i64_w, i32_w]
   rfl
  refine done_ (Ze5 HT_.out (by kernel_rfl)) ?_
  try go_wp2
  refine bodyPost_ret (Zct rfl _ _ g01 52 #[.int .i64 t102, .int .i64 t103, .slice Ao40 t104.length co40] (0, 0) _ rfl (by (with_reducible repeat (first | refine Zaf ?_ _ | refine Zaj ?_ | refine Zag ?_ _)); refine Zav (cs := #[.int .i64 t102, .int .i64 t103, .slice none 0 0]) ?_ 2 _ rfl; (with_reducible repeat (first | refine Zaf ?_ _ | refine Zaj ?_ | refine Zag ?_ _)); refine Zav (cs := #[.int .i64 t102, .int .i64 0, .slice none 0 0]) ?_ 1 _ rfl; (with_reducible repeat (first | refine Zaf ?_ _ | refine Zaj ?_ | refine Zag ?_ _)); refine Zav (cs := #[.int .i64 0, .int .i64 0, .slice none 0 0]) ?_ 0 _ rfl; (with_reducible repeat (first | refine Zaf ?_ _ | refine Zaj ?_ | refine Zag ?_ _)); exact K01.out) Tryz.underlying52 rfl (by kernel_rfl)) rfl ?_
  exact ⟨_, by first | rfl | (simp [Zap, Zao] <;> rfl) | (simp [*, Zap, Zao] <;> rfl), by (with_reducible repeat (first | apply Kd.R_alloc | apply Kd.R_drewN | apply Kd.R_drew)); exact Kd.R_mono (Kd.R_far (p := ⟨g01, 2, none⟩) (Kd.R_far (p := ⟨g01, 1, none⟩) (Kd.R_far (p := ⟨g01, 0, none⟩) (Kd.R_types HO106.out K01.out (by decide)) (fun _ hk => hk.2) (.int .i64 t102)) (fun _ hk => hk.2) (.int .i64 t103)) (fun _ hk => hk.2) (.slice Ao40 t104.length co40)) (fun _ hk => trivial), by repeat (first | (with_reducible first | exact HB.out | apply Zac | apply Zaa | apply Zab | refine Zai ?_ E01.out | refine Zai ?_ E08.out) | exact HB.out)⟩
end Go.Proofs.YtjohcjkidoalkaaGreatDoor.PA
