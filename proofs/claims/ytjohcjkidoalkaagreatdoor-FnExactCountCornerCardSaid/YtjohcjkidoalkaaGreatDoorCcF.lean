/- The program's CountCorner returns what the reference's returns, for all arguments. No condition. -/
import Derived.Test.YtjohcjkidoalkaaGreatDoorCcE
import Derived.Test.YtjohcjkidoalkaaGreatDoorRows
import Derived.WalkKit
import Derived.ProofKit
import Derived.OpenShut
import Derived.ShutString
import Derived.ChangeOld
import Derived.Below
import Derived.SizedLaws
import Derived.LaidMore
import Derived.Stop.Joined
import Derived.Lay
import Derived.LaidOnce
import Derived.SevenTiedAt
import Derived.Test.YtjohcjkidoalkaaGreatDoorCards
import Derived.Test.YtjohcjkidoalkaaGreatDoorTie
import Derived.Lib.Strings
namespace Go.Proofs.YtjohcjkidoalkaaGreatDoor.PA
open Go.RowKit Go.PW.PrintWords Go.PW.PrintLast Go.PW.PrintMore
attribute [local go_sem] max2_int min2_int max_two min_two Zbb Zba max_four min_four
set_option linter.unusedVariables false
set_option linter.unusedSimpArgs false
def laws_FnExactCountCorner.f (k : Nat) (a0 : ByteArray) (a1 : ByteArray) : Option (Bool) := if (a0.size : Int) > 1048576 then (some true) else (if (a1.size : Int) > 1048576 then (some true) else ((spec_CountCorner.f k a0 a1).bind fun bt101 => ((impl_CountCorner.f k a0 a1).bind fun bt103 => (if bt103.1 = bt101.1 then (if (bt103.2 != bt101.2) = true then (some false) else (some true)) else (some false)))))
set_option maxHeartbeats 8000000 in
set_option maxRecDepth 100000 in
theorem laws_FnExactCountCorner.calls (k : Nat) (a0 : ByteArray) (a1 : ByteArray) (r : Bool) (w : World) (h : laws_FnExactCountCorner.f k a0 a1 = some r) :
  Calls Tryz.prog 4 #[.string a0, .string a1] w fun e w' => e = .returned (.bool r) ∧ Below w.heap.size w w' := by
 have HB := Aside0.mk (Below.refl w.heap.size w)
 have H : (if (a0.size : Int) > 1048576 then (some true) else (if (a1.size : Int) > 1048576 then (some true) else ((spec_CountCorner.f k a0 a1).bind fun bt101 => ((impl_CountCorner.f k a0 a1).bind fun bt103 => (if bt103.1 = bt101.1 then (if (bt103.2 != bt101.2) = true then (some false) else (some true)) else (some false)))))) = some r := h
 clear h
 by_cases c3 : (a0.size : Int) > 1048576
 ·rw [if_pos c3] at H
  have c3b0 : decide (1048576 < (a0.size : Int)) = true := decide_eq_true c3
  have c3b1 : decide (1048576 < a0.size) = true := decide_eq_true (by omega)
  clear c3
  obtain rfl := Option.some.inj H
  go_enter Tryz.func4, Tryz.ntmps4
  go_wp2
  go_ret
  exact ⟨by first | rfl | (simp [Zaq, Zap] <;> rfl) | (simp [*, Zaq, Zap] <;> rfl), by repeat (first | (with_reducible first | exact HB.out | apply Zac | apply Zaa | apply Zab) | exact HB.out)⟩
 ·rw [if_neg c3] at H
  have c3b0 : decide (1048576 < (a0.size : Int)) = false := decide_eq_false c3
  have c3b1 : decide (1048576 < a0.size) = false := decide_eq_false (by omega)
  clear c3
  by_cases c4 : (a1.size : Int) > 1048576
  ·rw [if_pos c4] at H
   have c4b0 : decide (1048576 < (a1.size : Int)) = true := decide_eq_true c4
   have c4b1 : decide (1048576 < a1.size) = true := decide_eq_true (by omega)
   clear c4
   obtain rfl := Option.some.inj H
   go_enter Tryz.func4, Tryz.ntmps4
   go_wp2
   go_ret
   exact ⟨by first | rfl | (simp [Zaq, Zap] <;> rfl) | (simp [*, Zaq, Zap] <;> rfl), by repeat (first | (with_reducible first | exact HB.out | apply Zac | apply Zaa | apply Zab) | exact HB.out)⟩
  ·rw [if_neg c4] at H
   have c4b0 : decide (1048576 < (a1.size : Int)) = false := decide_eq_false c4
   have c4b1 : decide (1048576 < a1.size) = false := decide_eq_false (by omega)
   clear c4
   replace H := Option.bind_eq_some_iff.mp H
   obtain ⟨⟨t101, t102⟩, A50, H⟩ := H
   replace H : ((impl_CountCorner.f k a0 a1).bind fun bt103 => (if bt103.1 = t101 then (if (bt103.2 != t102) = true then (some false) else (some true)) else (some false))) = some r := H
   have A5 := Aside0.mk A50
   clear A50
   replace H := Option.bind_eq_some_iff.mp H
   obtain ⟨⟨t103, t104⟩, A60, H⟩ := H
   replace H : (if t103 = t101 then (if (t104 != t102) = true then (some false) else (some true)) else (some false)) = some r := H
   have A6 := Aside0.mk A60
   clear A60
   by_cases c7 : t103 = t101
   ·rw [if_pos c7] at H
    have c7b0 : (t103 == t101) = true := beq_iff_eq.mpr c7
    have c7b1 : (t103 != t101) = false := bne_eq_false_iff_eq.mpr c7
    clear c7
    by_cases c8 : (t104 != t102) = true
    ·rw [if_pos c8] at H
     have c8b0 : (t104 != t102) = true := c8
     (try (have c8b1 : decide (t104 = t102) = false := by simpa using c8))
     (try (have c8b2 : (t104 == t102) = false := by simpa using c8))
     (try (have c8b3 : ¬ (t104 = t102) := by simpa using c8))
     clear c8
     obtain rfl := Option.some.inj H
     go_enter Tryz.func4, Tryz.ntmps4
     go_wp2_with (first | ((with_reducible refine Zau (f := 15) rfl ?_); refine goesL_ (some 18) rfl rfl Tryz.func15 (by kernel_rfl) rfl #[.string a0, .string a1] rfl (by (try simp only [List.map_toArray, List.map_cons, List.map_nil]); first | done | rfl | (simp only [List.length_drop, List.length_take]; rfl)) ?_; (with_reducible refine (spec_CountCorner.calls k a0 a1 t101 t102 _ A5.out).mono ?_); rintro e w9 ⟨rfl, hb⟩; refine ⟨_, rfl, ?_⟩; have n0_ := Aside0.mk (Zak (by repeat (first | (with_reducible first | exact HB.out | apply Zac | apply Zaa | apply Zab) | exact HB.out)) hb); clear HB; have HB := n0_; clear n0_; (try clear hb); (try clear hb2); (try clear hk); (try clear hi)) | ((with_reducible refine Zau (f := 16) rfl ?_); refine goesL_ (some 24) rfl rfl Tryz.func16 (by kernel_rfl) rfl #[.string a0, .string a1] rfl (by (try simp only [List.map_toArray, List.map_cons, List.map_nil]); first | done | rfl | (simp only [List.length_drop, List.length_take]; rfl)) ?_; (with_reducible refine (impl_CountCorner.calls k a0 a1 t103 t104 _ A6.out).mono ?_); rintro e w10 ⟨rfl, hb⟩; refine ⟨_, rfl, ?_⟩; have n0_ := Aside0.mk (Zak (by repeat (first | (with_reducible first | exact HB.out | apply Zac | apply Zaa | apply Zab) | exact HB.out)) hb); clear HB; have HB := n0_; clear n0_; (try clear hb); (try clear hb2); (try clear hk); (try clear hi)))
     go_ret
     exact ⟨by first | rfl | (simp [Zaq, Zap] <;> rfl) | (simp [*, Zaq, Zap] <;> rfl), by repeat (first | (with_reducible first | exact HB.out | apply Zac | apply Zaa | apply Zab) | exact HB.out)⟩
    ·rw [if_neg c8] at H
     have c8b0 : (t104 != t102) = false := by simpa using c8
     (try (have c8b1 : decide (t104 = t102) = true := by simpa using c8))
     (try (have c8b2 : (t104 == t102) = true := by simpa using c8))
     clear c8
     obtain rfl := Option.some.inj H
     go_enter Tryz.func4, Tryz.ntmps4
     go_wp2_with (first | ((with_reducible refine Zau (f := 15) rfl ?_); refine goesL_ (some 18) rfl rfl Tryz.func15 (by kernel_rfl) rfl #[.string a0, .string a1] rfl (by (try simp only [List.map_toArray, List.map_cons, List.map_nil]); first | done | rfl | (simp only [List.length_drop, List.length_take]; rfl)) ?_; (with_reducible refine (spec_CountCorner.calls k a0 a1 t101 t102 _ A5.out).mono ?_); rintro e w11 ⟨rfl, hb⟩; refine ⟨_, rfl, ?_⟩; have n0_ := Aside0.mk (Zak (by repeat (first | (with_reducible first | exact HB.out | apply Zac | apply Zaa | apply Zab) | exact HB.out)) hb); clear HB; have HB := n0_; clear n0_; (try clear hb); (try clear hb2); (try clear hk); (try clear hi)) | ((with_reducible refine Zau (f := 16) rfl ?_); refine goesL_ (some 24) rfl rfl Tryz.func16 (by kernel_rfl) rfl #[.string a0, .string a1] rfl (by (try simp only [List.map_toArray, List.map_cons, List.map_nil]); first | done | rfl | (simp only [List.length_drop, List.length_take]; rfl)) ?_; (with_reducible refine (impl_CountCorner.calls k a0 a1 t103 t104 _ A6.out).mono ?_); rintro e w12 ⟨rfl, hb⟩; refine ⟨_, rfl, ?_⟩; have n0_ := Aside0.mk (Zak (by repeat (first | (with_reducible first | exact HB.out | apply Zac | apply Zaa | apply Zab) | exact HB.out)) hb); clear HB; have HB := n0_; clear n0_; (try clear hb); (try clear hb2); (try clear hk); (try clear hi)))
     go_ret
     exact ⟨by first | rfl | (simp [Zaq, Zap] <;> rfl) | (simp [*, Zaq, Zap] <;> rfl), by repeat (first | (with_reducible first | exact HB.out | apply Zac | apply Zaa | apply Zab) | exact HB.out)⟩
   ·rw [if_neg c7] at H
    have c7b0 : (t103 == t101) = false := beq_eq_false_iff_ne.mpr c7
    have c7b1 : (t103 != t101) = true := bne_iff_ne.mpr c7
    obtain rfl := Option.some.inj H
    go_enter Tryz.func4, Tryz.ntmps4
    go_wp2_with (first | ((with_reducible refine Zau (f := 15) rfl ?_); refine goesL_ (some 18) rfl rfl Tryz.func15 (by kernel_rfl) rfl #[.string a0, .string a1] rfl (by (try simp only [List.map_toArray, List.map_cons, List.map_nil]); first | done | rfl | (simp only [List.length_drop, List.length_take]; rfl)) ?_; (with_reducible refine (spec_CountCorner.calls k a0 a1 t101 t102 _ A5.out).mono ?_); rintro e w13 ⟨rfl, hb⟩; refine ⟨_, rfl, ?_⟩; have n0_ := Aside0.mk (Zak (by repeat (first | (with_reducible first | exact HB.out | apply Zac | apply Zaa | apply Zab) | exact HB.out)) hb); clear HB; have HB := n0_; clear n0_; (try clear hb); (try clear hb2); (try clear hk); (try clear hi)) | ((with_reducible refine Zau (f := 16) rfl ?_); refine goesL_ (some 24) rfl rfl Tryz.func16 (by kernel_rfl) rfl #[.string a0, .string a1] rfl (by (try simp only [List.map_toArray, List.map_cons, List.map_nil]); first | done | rfl | (simp only [List.length_drop, List.length_take]; rfl)) ?_; (with_reducible refine (impl_CountCorner.calls k a0 a1 t103 t104 _ A6.out).mono ?_); rintro e w14 ⟨rfl, hb⟩; refine ⟨_, rfl, ?_⟩; have n0_ := Aside0.mk (Zak (by repeat (first | (with_reducible first | exact HB.out | apply Zac | apply Zaa | apply Zab) | exact HB.out)) hb); clear HB; have HB := n0_; clear n0_; (try clear hb); (try clear hb2); (try clear hk); (try clear hi)))
    go_ret
    exact ⟨by first | rfl | (simp [Zaq, Zap] <;> rfl) | (simp [*, Zaq, Zap] <;> rfl), by repeat (first | (with_reducible first | exact HB.out | apply Zac | apply Zaa | apply Zab) | exact HB.out)⟩
def laws_FnExactCountCorner.Pure : Prop := ∀ (a0 : ByteArray) (a1 : ByteArray), a0.size ≤ 140737488351232 → a1.size ≤ 140737488351232 → ∃ k, laws_FnExactCountCorner.f k a0 a1 = some true
theorem laws_FnExactCountCorner.walk (P : laws_FnExactCountCorner.Pure) (a0 : ByteArray) (a1 : ByteArray) (w : World) (w0 : a0.size ≤ 140737488351232) (w1 : a1.size ≤ 140737488351232) :
  Calls Tryz.prog 4 #[.string a0, .string a1] w fun e w' => e = .returned (.bool true) ∧ Below w.heap.size w w' := by
 obtain ⟨k, h⟩ := P a0 a1 w0 w1
 refine (laws_FnExactCountCorner.calls k a0 a1 true w h).mono ?_
 rintro e w' ⟨rfl, hd⟩
 exact ⟨rfl, hd⟩
end Go.Proofs.YtjohcjkidoalkaaGreatDoor.PA

namespace Go.Proofs.YtjohcjkidoalkaaGreatDoor.fnExactCountCorner
open Go.ChangeShapes Go.WideShapes Go.ChangeAt Go.RowKit
open Go.ChangeMaps (open_string shut_string)
set_option linter.unusedVariables false
theorem own : ownKnob Tryz.prog.godebug = none := by kernel_rfl
set_option maxRecDepth 100000 in
theorem lifted (hP : PA.laws_FnExactCountCorner.Pure) (os : Os) (started : os.Started) (H : Type) (enc : TypeId × Value → H) :
  ReturnsInHanded {} Tryz.checked os 4 .any (fun w args => (Rows.fnExactCountCornerSpec.pre enc Tryz.prog Tryz.f4 [] false w args ∧ laidMetH Tryz.prog Rows.fnExactCountCornerRow.laid w) ∧ sizedMet enc Tryz.prog Tryz.f4 (OpenSpec.ofChange Rows.fnExactCountCornerSpec) false w args)
   (Rows.fnExactCountCornerSpec.post enc Tryz.prog Tryz.f4 false true false false) := by
 refine returnsInHanded_of_change_and (C := Tryz.checked) (X := fun w _ => laidMetH Tryz.prog Rows.fnExactCountCornerRow.laid w) (fun _ _ _ hh h => h.of_heap hh) own started (by kernel_rfl) Tryz.func4
  (ChangeSpec.witness_shaped (enc := enc) (C := Tryz.checked) (os := os) (X := fun w _ => laidMetH Tryz.prog Rows.fnExactCountCornerRow.laid w) false (World.laidAll Tryz.prog os Rows.fnExactCountCornerRow.laid) #[.string ByteArray.empty, .string ByteArray.empty] 8 (World.laidAll_os _ _ _)
   (World.shaped_of_ZipB (by kernel_rfl) (by kernel_rfl)) (by kernel_rfl) (by kernel_rfl) (by kernel_rfl)
   (by rw [MakeChecks.laidMetH_plain _ _ _ (by kernel_rfl)]; exact laidMet_laidAll _ (by kernel_rfl) (by kernel_rfl))) ?_
 intro W base args ds gs before hval0 hW hcnd hsz0 _ _
 have hsz : (DataW.weightsEach Tryz.prog (Tryz.f4.params.toList ++ Rows.fnExactCountCornerSpec.plain.varTypes Tryz.prog) (ds ++ gs)).all (· ≤ reachBytes) = true := hsz0
 have hval : ∀ (j : Nat) t v, Tryz.f4.params[j]? = some t → args[j]? = some v → Value.okWide Tryz.prog W .any base t v := hval0
 have hW' := hW
 obtain ⟨p, q, hA0, hV, rfl, hfz, hnd⟩ := hW
 have hA : DataW.TrodAll enc Tryz.prog W 0 (fun _ => true) true Tryz.f4.params.toList args.toList ds p := hA0
 rw [Tryz.params4] at hA hval hsz
 obtain ⟨v0, vs0, d0, ds0, p0, q0, hargs, rfl, rfl, h0, r0⟩ := trodAll_cons hA
 obtain ⟨v1, vs1, d1, ds1, p1, q1, rfl, rfl, rfl, h1, r1⟩ := trodAll_cons r0
 obtain ⟨rfl, rfl, rfl⟩ := trodAll_nil r1
 obtain rfl : args = #[v0, v1] := by cases args; simp_all
 obtain ⟨rfl, rfl⟩ := trodVars_none hV
 obtain ⟨a0, rfl, rfl, rfl, y0⟩ := open_string Tryz.underlying9 (hval 0 9 v0 rfl rfl) h0
 have w0 : a0.size ≤ 140737488351232 := by
  have z := sized_string hsz (j := 0) (t := 9) rfl rfl
  rw [Array.length_toList] at z
  exact z
 obtain ⟨a1, rfl, rfl, rfl, y1⟩ := open_string Tryz.underlying9 (hval 1 9 v1 rfl rfl) h1
 have w1 : a1.size ≤ 140737488351232 := by
  have z := sized_string hsz (j := 1) (t := 9) rfl rfl
  rw [Array.length_toList] at z
  exact z
 clear hA0 hval0 hsz0 hsz
 refine (PA.laws_FnExactCountCorner.walk hP a0 a1 W w0 w1).mono fun e W' ⟨he, bel⟩ => ?_
 subst he
 exact ⟨_, rfl, _, _, _, [], _, [], hW', trodAll_mk1 (shut_bool Tryz.underlying4 _), (trodAll_cons_mk (shut_string Tryz.underlying9 y0) (trodAll_cons_mk (shut_string Tryz.underlying9 y1) trodAll_mk0)), rfl, bel.frame _, fun h => by cases h⟩
theorem over (hP : PA.laws_FnExactCountCorner.Pure) : Rows.FnExactCountCornerSaid :=
 OpenClaim.holds_of_wide 4 Tryz.f4 rfl rfl rfl rfl rfl rfl rfl ⟨rfl, rfl, rfl, rfl, rfl⟩ rfl rfl rfl rfl rfl (by kernel_rfl) Tryz.func4 (by kernel_rfl)
  (of_decide_eq_true (by kernel_rfl)) (by unfold Func.isWrapper; first | (rw [if_pos (by decide +kernel)]; kernel_rfl) | (rw [if_neg (by decide +kernel)]; exact ⟨rfl, rfl⟩))
  (fun os started H enc _ => lifted hP os started H enc)
theorem carded (hP : PA.laws_FnExactCountCorner.Pure) : Rows.FnExactCountCornerCardSaid :=
 Claim7.holds_tied_plain_at .later [] [.data, .pinned] true (true, "cf7b0e41f916e4a641c3e0a935cb987e17fcc48cb0d7eda7c3c63c26678e2e2e") false
  (over hP) (fun _ h => by cases h) (by kernel_rfl) (fun _ h => by cases h) fnExactCountCorner_row_tie rfl ⟨rfl, rfl⟩ (by kernel_rfl) rfl
  (fun f fn hf hfn => by
   obtain rfl : f = 4 := Option.some.inj ((show Tryz.prog.funcNamed "loop.example/g01199/laws.FnExactCountCorner" = some 4 by kernel_rfl).symm.trans hf) |>.symm
   obtain rfl : fn = Tryz.f4 := (Option.some.inj (Tryz.func4.symm.trans hfn)).symm
   exact ⟨by kernel_rfl, fun j t ht => by
    rw [Tryz.params4] at ht
    have hm : t ∈ [9] := by
     have := Array.mem_of_getElem? ht
     simpa using this
    have hall : ([9].all fun u => !Tryz.prog.wantsStandIn u) = true := by kernel_rfl
    exact (show Tryz.prog.wantsStandIn t = false by simpa using List.all_eq_true.1 hall t hm)⟩)
  (by kernel_rfl)
end Go.Proofs.YtjohcjkidoalkaaGreatDoor.fnExactCountCorner

namespace Go.Proofs.YtjohcjkidoalkaaGreatDoor.Plain
open Go.RowKit Go.Proofs.YtjohcjkidoalkaaGreatDoor.PA Go.PW.PrintWords Go.PW.PrintLast
set_option linter.unusedVariables false
set_option linter.unusedSimpArgs false
def Ev {α : Type} (f : Nat → Option α) (r : α) : Prop := ∃ k0, ∀ k, k0 ≤ k → f k = some r
theorem Ev.const {α : Type} {o : Option α} {r : α} (h : o = some r) : Ev (fun _ => o) r := ⟨0, fun _ _ => h⟩
theorem Ev.shift {α : Type} {f g : Nat → Option α} {r : α} (h : Ev g r) (hs : ∀ k, f (k + 1) = g k) : Ev f r := by
 obtain ⟨k0, h⟩ := h
 refine ⟨k0 + 1, fun k hk => ?_⟩
 obtain ⟨j, rfl⟩ : ∃ j, k = j + 1 := ⟨k - 1, by omega⟩
 rw [hs, h j (by omega)]
theorem Ev.bind {α β : Type} {f : Nat → Option α} {g : Nat → α → Option β} {a : α} {r : β} (h : Ev f a) (hg : Ev (fun k => g k a) r) : Ev (fun k => (f k).bind (g k)) r := by
 obtain ⟨k0, h⟩ := h
 obtain ⟨k1, hg⟩ := hg
 refine ⟨max k0 k1, fun k hk => ?_⟩
 show (f k).bind (g k) = some r
 rw [h k (by omega)]
 exact hg k (by omega)
theorem Ev.congr {α : Type} {f g : Nat → Option α} {r : α} (h : Ev g r) (hs : ∀ k, f k = g k) : Ev f r := by
 obtain ⟨k0, h⟩ := h
 exact ⟨k0, fun k hk => by rw [hs, h k hk]⟩
theorem wrap_n (j : Nat) (h : j < 4294967296) : wrap64 ((j : Int) + 1) = ((j + 1 : Nat) : Int) := by
 unfold wrap64; omega
theorem wrap_s {x : Int} (h1 : -4294967296 < x) (h2 : x < 4294967296) : wrap64 x = x := by
 unfold wrap64; omega
theorem rd_n (l : List Int) (j : Nat) (h : j < l.length) : rd l (j : Int) = l[j] := by simp [rd, List.getD_eq_getElem?_getD, List.getElem?_eq_getElem h]
theorem drop_cons {α : Type} (l : List α) (j : Nat) (h : j < l.length) : l.drop j = l[j] :: l.drop (j + 1) := List.drop_eq_getElem_cons h
theorem ball_spec (c : Int) : spec_tyBall.f c = some (ballB c) := by
 unfold spec_tyBall.f ballB
 by_cases h : c = 111
 ·simp [h]
 ·by_cases h2 : 97 ≤ c <;> simp [h, h2]
theorem tyBalls_ev (w h : Int) (l : List Int) (hl : l.length < 4294967296) : Ev (fun k => Zbc.f k w h l) (((List.range l.length).filter fun (j : Nat) => ballB (rd l (j : Int))).map fun (j : Nat) => (j : Int)) := by
 have main : ∀ (m j : Nat) (acc : List Int), j + m = l.length → acc.length ≤ j → Ev (fun k => Zbc.l0 k acc l (l.length : Int) (j : Int)) (acc ++ (((List.range' j m).filter fun (j : Nat) => ballB (rd l (j : Int))).map fun (j : Nat) => (j : Int))) := by
  intro m
  induction m with
  | zero =>
   intro j acc hj ha
   refine Ev.shift (g := fun _ => some acc) (Ev.const (by simp)) (fun k => ?_)
   simp only [Zbc.l0]
   rw [if_neg (by omega)]
  | succ m ih =>
   intro j acc hj ha
   refine Ev.shift (g := fun k => if ballB (rd l j) = true then Zbc.l0 k (acc ++ [(j : Int)]) l (l.length : Int) ((j + 1 : Nat) : Int) else Zbc.l0 k acc l (l.length : Int) ((j + 1 : Nat) : Int)) ?_ (fun k => ?_)
   ·rw [List.range'_succ, List.filter_cons]
    cases hb : ballB (rd l j)
    ·simpa using ih (j + 1) acc (by omega) (by omega)
    ·simpa using ih (j + 1) (acc ++ [(j : Int)]) (by omega) (by simp; omega)
   ·simp only [Zbc.l0]
    rw [if_pos (by omega), if_pos (by omega), if_pos (by omega), ball_spec, wrap_n j (by omega)]
    simp only [Option.bind_some]
    rw [if_pos (show acc.length < 17592186044416 by omega)]
 have := main l.length 0 [] (by simp) (by simp)
 rw [← List.range_eq_range'] at this
 exact this.congr (fun k => rfl)
def openL (l : List Int) : List Int := ((List.range l.length).filter fun (j : Nat) => rd l (j : Int) != 35).map fun (j : Nat) => (j : Int)
theorem indices_ev (w h : Int) (l : List Int) (hl : l.length < 4294967296) : Ev (fun k => Zan.f k w h l) (openL l) := by
 have main : ∀ (m j : Nat) (acc : List Int), j + m = l.length → acc.length ≤ j → Ev (fun k => Zan.l0 k acc l (l.length : Int) (j : Int)) (acc ++ (((List.range' j m).filter fun (j : Nat) => rd l (j : Int) != 35).map fun (j : Nat) => (j : Int))) := by
  intro m
  induction m with
  | zero =>
   intro j acc hj ha
   refine Ev.shift (g := fun _ => some acc) (Ev.const (by simp)) (fun k => ?_)
   simp only [Zan.l0]
   rw [if_neg (by omega)]
  | succ m ih =>
   intro j acc hj ha
   refine Ev.shift (g := fun k => if (rd l j != 35) = true then Zan.l0 k (acc ++ [(j : Int)]) l (l.length : Int) ((j + 1 : Nat) : Int) else Zan.l0 k acc l (l.length : Int) ((j + 1 : Nat) : Int)) ?_ (fun k => ?_)
   ·rw [List.range'_succ, List.filter_cons]
    cases hb : rd l j != 35
    ·simpa using ih (j + 1) acc (by omega) (by omega)
    ·simpa using ih (j + 1) (acc ++ [(j : Int)]) (by omega) (by simp; omega)
   ·simp only [Zan.l0, impl_isOpen.f]
    rw [if_pos (by omega), if_pos (by omega), if_pos (by omega), wrap_n j (by omega)]
    simp only [Option.bind_some]
    rw [if_pos (show acc.length < 17592186044416 by omega)]
 have := main l.length 0 [] (by simp) (by simp)
 rw [← List.range_eq_range'] at this
 exact this.congr (fun k => rfl)
theorem cnBare_l0_ev (w h : Int) (l : List Int) (hl : l.length < 4294967296) : Ev (fun k => Za2.l0 k 0 l (l.length : Int) 0 w h l) (w, h, l, (((List.range l.length).filter fun (j : Nat) => rd l (j : Int) == 46).length : Int), true) := by
 have main : ∀ (m j n : Nat), j + m = l.length → n ≤ j → Ev (fun k => Za2.l0 k (n : Int) l (l.length : Int) (j : Int) w h l) (w, h, l, ((n + ((List.range' j m).filter fun (j : Nat) => rd l (j : Int) == 46).length : Nat) : Int), true) := by
  intro m
  induction m with
  | zero =>
   intro j n hj hn
   refine Ev.shift (g := fun _ => some (w, h, l, (n : Int), true)) (Ev.const (by simp)) (fun k => ?_)
   simp only [Za2.l0]
   rw [if_neg (by omega)]
  | succ m ih =>
   intro j n hj hn
   refine Ev.shift (g := fun k => if rd l j = 46 then Za2.l0 k ((n + 1 : Nat) : Int) l (l.length : Int) ((j + 1 : Nat) : Int) w h l else Za2.l0 k (n : Int) l (l.length : Int) ((j + 1 : Nat) : Int) w h l) ?_ (fun k => ?_)
   ·rw [List.range'_succ, List.filter_cons]
    by_cases hb : rd l j = 46
    ·have := ih (j + 1) (n + 1) (by omega) (by omega)
     simp only [hb, if_true, beq_self_eq_true, List.length_cons]
     rw [show n + (((List.range' (j + 1) m).filter fun (j : Nat) => rd l (j : Int) == 46).length + 1) = n + 1 + ((List.range' (j + 1) m).filter fun (j : Nat) => rd l (j : Int) == 46).length by omega]
     exact this
    ·have hb2 : (rd l j == 46) = false := by simpa using hb
     simp only [hb, if_false, hb2, Bool.false_eq_true]
     exact ih (j + 1) n (by omega) (by omega)
   ·simp only [Za2.l0]
    rw [if_pos (by omega), if_pos (by omega), if_pos (by omega), wrap_n j (by omega), wrap_n n (by omega)]
 have := main l.length 0 0 (by simp) (by simp)
 rw [← List.range_eq_range'] at this
 simpa using this
def fillS : List Nat → Nat → List Int → List Int
 | [], _, x => x
 | i :: is, s, x => fillS is (s / 2) (if s % 2 = 1 then x.set i 111 else x)
theorem fillS_length : ∀ (is : List Nat) (s : Nat) (x : List Int), (fillS is s x).length = x.length
 | [], _, _ => rfl
 | i :: is, s, x => by
  rw [fillS, fillS_length is]
  split <;> simp
def freeL (l : List Int) : List Nat := (List.range l.length).filter fun (j : Nat) => rd l (j : Int) == 46
theorem cnFill_ev (w h : Int) (l : List Int) (s : Nat) (hs : s < 4294967296) (hl : l.length < 4294967296) : Ev (fun k => spec_cnFill.f k w h l (s : Int)) (w, h, fillS (freeL l) s l) := by
 have main : ∀ (m j s : Nat) (x : List Int), j + m = l.length → s < 4294967296 → x.length = l.length → Ev (fun k => spec_cnFill.l0 k (s : Int) l (l.length : Int) (j : Int) w h x) (w, h, fillS ((List.range' j m).filter fun (j : Nat) => rd l (j : Int) == 46) s x) := by
  intro m
  induction m with
  | zero =>
   intro j s x hj hs hx
   refine Ev.shift (g := fun _ => some (w, h, x)) (Ev.const (by simp [fillS])) (fun k => ?_)
   simp only [spec_cnFill.l0]
   rw [if_neg (by omega)]
  | succ m ih =>
   intro j s x hj hs hx
   refine Ev.shift (g := fun k => if rd l j = 46 then spec_cnFill.l0 k ((s / 2 : Nat) : Int) l (l.length : Int) ((j + 1 : Nat) : Int) w h (if s % 2 = 1 then x.set j 111 else x) else spec_cnFill.l0 k (s : Int) l (l.length : Int) ((j + 1 : Nat) : Int) w h x) ?_ (fun k => ?_)
   ·rw [List.range'_succ, List.filter_cons]
    by_cases hb : rd l j = 46
    ·simp only [hb, if_true, beq_self_eq_true, fillS]
     exact ih (j + 1) (s / 2) _ (by omega) (by omega) (by split <;> simp [hx])
    ·have hb2 : (rd l j == 46) = false := by simpa using hb
     simp only [hb, if_false, hb2, Bool.false_eq_true]
     exact ih (j + 1) s x (by omega) hs hx
   ·simp only [spec_cnFill.l0]
    rw [if_pos (by omega), if_pos (by omega), if_pos (by omega), wrap_n j (by omega)]
    have h1 : Int.tmod (s : Int) 2 = ((s % 2 : Nat) : Int) := by rw [Int.tmod_eq_emod_of_nonneg (by omega)]; omega
    have h2 : wrap64 (Int.tdiv (s : Int) 2) = ((s / 2 : Nat) : Int) := by rw [Int.tdiv_eq_ediv_of_nonneg (by omega)]; unfold wrap64; omega
    rw [h1, h2]
    by_cases hb : rd l j = 46
    ·rw [if_pos hb, if_pos hb]
     by_cases h3 : s % 2 = 1
     ·rw [if_pos (by omega), if_pos (by omega), if_pos h3, Int.toNat_natCast]
     ·rw [if_neg (by omega), if_neg h3]
    ·rw [if_neg hb, if_neg hb]
 unfold spec_cnFill.f spec_tyCopy.f
 have := main l.length 0 s l (by simp) hs rfl
 rw [← List.range_eq_range'] at this
 refine this.congr (fun k => ?_)
 simp only [Option.bind_some, List.length_nil, Nat.zero_add, List.nil_append]
 rw [if_pos (show l.length < 140737488355328 by omega)]
 rfl
theorem fillS_eq (is : List Nat) (s : Nat) (x : List Int) : fillS is s x = fillJ x (is.map fun (j : Nat) => (j : Int)) s is.length := by
 have main : ∀ (m j : Nat), j + m = is.length → fillS (is.drop j) (s / 2 ^ j) (fillJ x (is.map fun (j : Nat) => (j : Int)) s j) = fillJ x (is.map fun (j : Nat) => (j : Int)) s is.length := by
  intro m
  induction m with
  | zero =>
   intro j hj
   obtain rfl : j = is.length := by omega
   simp [fillS]
  | succ m ih =>
   intro j hj
   have hlt : j < is.length := by omega
   rw [drop_cons is j hlt, fillS, ← ih (j + 1) (by omega), fillJ_succ, Nat.testBit_eq_decide_div_mod_eq, Nat.div_div_eq_div_mul, ← Nat.pow_succ]
   congr 1
   have hr : (rd (is.map fun (j : Nat) => (j : Int)) (j : Int)).toNat = is[j] := by
    rw [rd_n _ _ (by simpa using hlt)]; simp
   rw [hr]
   simp
 simpa [fillJ] using main is.length 0 (by simp)
def mvD (cells : List Int) : Nat → Nat → List Int → List Int
 | _, _, [] => []
 | n, j, i :: is => if ballB (rd cells i) = true then ((j : Int) - (n : Int)) :: mvD cells (n + 1) (j + 1) is else mvD cells n (j + 1) is
theorem mvD_length (cells : List Int) : ∀ (n j : Nat) (is : List Int), (mvD cells n j is).length ≤ is.length
 | _, _, [] => by simp [mvD]
 | n, j, i :: is => by
  rw [mvD]
  split
  ·have := mvD_length cells (n + 1) (j + 1) is
   simp; omega
  ·have := mvD_length cells n (j + 1) is
   simp; omega
theorem rdL_n (S : List (List Int)) (j : Nat) (h : j < S.length) : rd_L3 S (j : Int) = S[j] := by simp [rd_L3, List.getD_eq_getElem?_getD, List.getElem?_eq_getElem h]
def InC (cells : List Int) (S : List (List Int)) : Prop := ∀ own ∈ S, ∀ k ∈ own, 0 ≤ k ∧ k < cells.length
theorem tiMoves_ev (w h : Int) (cells : List Int) (S : List (List Int)) (hS : InC cells S) (hl : S.length < 1000000) (ho : ∀ own ∈ S, own.length < 1000000) : Ev (fun k => Za0.l0 k [] S (S.length : Int) 0 w h cells) (S.flatMap (mvD cells 0 0)) := by
 have inner : ∀ (i : Nat) (hi : i < S.length) (r : List Int) (m j n : Nat) (acc : List Int), j + m = S[i].length → n ≤ j → acc.length ≤ i * 1000000 + j →
   Ev (fun k => Za0.l0 k (acc ++ mvD cells n j (S[i].drop j)) S (S.length : Int) ((i + 1 : Nat) : Int) w h cells) r →
   Ev (fun k => Za0.l1 k acc (n : Int) S (S.length : Int) (i : Int) S[i] (S[i].length : Int) (j : Int) w h cells) r := by
  intro i hi r m
  have hoi := ho S[i] (List.getElem_mem _)
  induction m with
  | zero =>
   intro j n acc hj hn ha hr
   refine Ev.shift hr (fun k => ?_)
   simp only [Za0.l1]
   rw [if_neg (by omega), wrap_n i (by omega), List.drop_eq_nil_of_le (by omega), mvD, List.append_nil]
  | succ m ih =>
   intro j n acc hj hn ha hr
   have hlt : j < S[i].length := by omega
   have hc := hS S[i] (List.getElem_mem _) S[i][j] (List.getElem_mem _)
   refine Ev.shift (g := fun k => if ballB (rd cells S[i][j]) = true then Za0.l1 k (acc ++ [(j : Int) - (n : Int)]) ((n + 1 : Nat) : Int) S (S.length : Int) (i : Int) S[i] (S[i].length : Int) ((j + 1 : Nat) : Int) w h cells else Za0.l1 k acc (n : Int) S (S.length : Int) (i : Int) S[i] (S[i].length : Int) ((j + 1 : Nat) : Int) w h cells) ?_ (fun k => ?_)
   ·rw [drop_cons _ j hlt, mvD] at hr
    cases hb : ballB (rd cells S[i][j])
    ·simp only [Bool.false_eq_true, if_false, hb] at hr ⊢
     exact ih (j + 1) n acc (by omega) (by omega) (by omega) hr
    ·simp only [if_true, hb] at hr ⊢
     exact ih (j + 1) (n + 1) (acc ++ [(j : Int) - (n : Int)]) (by omega) (by omega) (by rw [List.length_append, List.length_singleton]; omega) (by simpa using hr)
   ·simp only [Za0.l1]
    rw [if_pos (by omega), if_pos (by omega), if_pos (by omega), rd_n _ _ hlt, if_pos hc.1, if_pos hc.2, ball_spec, wrap_n j (by omega), wrap_n n (by omega)]
    simp only [Option.bind_some]
    rw [if_pos (show acc.length < 17592186044416 by omega), wrap_s (by omega) (by omega)]
 have outer : ∀ (m i : Nat) (acc : List Int), i + m = S.length → acc.length ≤ i * 1000000 → Ev (fun k => Za0.l0 k acc S (S.length : Int) (i : Int) w h cells) (acc ++ (S.drop i).flatMap (mvD cells 0 0)) := by
  intro m
  induction m with
  | zero =>
   intro i acc hi ha
   refine Ev.shift (g := fun _ => some acc) (Ev.const (by rw [List.drop_eq_nil_of_le (by omega)]; simp)) (fun k => ?_)
   simp only [Za0.l0]
   rw [if_neg (by omega)]
  | succ m ih =>
   intro i acc hi ha
   have hlt : i < S.length := by omega
   refine Ev.shift (g := fun k => Za0.l1 k acc ((0 : Nat) : Int) S (S.length : Int) (i : Int) S[i] (S[i].length : Int) ((0 : Nat) : Int) w h cells) ?_ (fun k => ?_)
   ·refine inner i hlt _ S[i].length 0 0 acc (Nat.zero_add _) (Nat.le_refl _) (Nat.le_trans ha (Nat.le_add_right _ _)) ?_
    have hml := mvD_length cells 0 0 S[i]
    have hoi := ho S[i] (List.getElem_mem _)
    have e1 : (acc ++ mvD cells 0 0 S[i]).length = acc.length + (mvD cells 0 0 S[i]).length := List.length_append
    have e2 : (acc ++ mvD cells 0 0 S[i]).length ≤ (i + 1) * 1000000 := by
     generalize (acc ++ mvD cells 0 0 S[i]).length = x at e1
     generalize (mvD cells 0 0 S[i]).length = y at e1 hml
     omega
    have := ih (i + 1) (acc ++ mvD cells 0 0 S[i]) (by omega) e2
    rw [drop_cons S i hlt, List.flatMap_cons]
    simpa using this
   ·simp only [Za0.l0]
    rw [if_pos (by omega), if_pos (by omega), if_pos (by omega), rdL_n S i hlt]
    rfl
 simpa using outer S.length 0 [] (by simp) (by simp)
def leastI (a b : Int) : Int := if a < b then a else b
theorem l1Least_eq (a b : Int) : spec_l1Least.f a b = some (leastI a b) := by
 unfold spec_l1Least.f leastI
 split <;> rfl
theorem tiFirst_ev (l : List Int) (h0 : 0 < l.length) (hl : l.length < 4294967296) : Ev (fun k => spec_tiFirst.f k l) (l.foldl leastI (rd l 0)) := by
 have main : ∀ (m j : Nat) (a : Int), j + m = l.length → Ev (fun k => spec_tiFirst.l0 k a l (l.length : Int) (j : Int)) ((l.drop j).foldl leastI a) := by
  intro m
  induction m with
  | zero =>
   intro j a hj
   refine Ev.shift (g := fun _ => some a) (Ev.const (by rw [List.drop_eq_nil_of_le (by omega)]; rfl)) (fun k => ?_)
   simp only [spec_tiFirst.l0]
   rw [if_neg (by omega)]
  | succ m ih =>
   intro j a hj
   have hlt : j < l.length := by omega
   refine Ev.shift (g := fun k => spec_tiFirst.l0 k (leastI a l[j]) l (l.length : Int) ((j + 1 : Nat) : Int)) ?_ (fun k => ?_)
   ·rw [drop_cons _ j hlt, List.foldl_cons]
    exact ih (j + 1) _ (by omega)
   ·simp only [spec_tiFirst.l0]
    rw [if_pos (by omega), if_pos (by omega), if_pos (by omega), rd_n _ _ hlt, l1Least_eq, wrap_n j (by omega)]
    rfl
 have := main l.length 0 (rd l 0) (by omega)
 refine Ev.congr (by simpa using this) (fun k => ?_)
 unfold spec_tiFirst.f
 rw [if_pos (by omega)]
theorem tyCell_eq (w h x y : Int) (cells : List Int) (hw : 1 ≤ w) (hw7 : w ≤ 7) (hh : 1 ≤ h) (hh7 : h ≤ 7) : Zay.f w h cells x y = some (decide (0 ≤ x ∧ x < w ∧ 0 ≤ y ∧ y < h)) := by
 simp only [Zay.f, spec_l1In.f]
 rw [wrap_s (x := w - 1) (by omega) (by omega), wrap_s (x := h - 1) (by omega) (by omega)]
 by_cases h1 : 0 ≤ x <;> by_cases h2 : x < w <;> by_cases h3 : 0 ≤ y <;> by_cases h4 : y < h <;>
  simp [h1, h2, h3, h4, show (x ≤ w - 1) = (x < w) from propext (by omega), show (y ≤ h - 1) = (y < h) from propext (by omega)]
def cellAt (w h : Int) (cells : List Int) (x y : Int) : Int :=
 if 0 ≤ x ∧ x < w ∧ 0 ≤ y ∧ y < h then (if rd cells (y * w + x) = 35 then -1 else y * w + x) else -1
theorem prod_lt (w h x y : Int) (hw : 1 ≤ w) (hx : 0 ≤ x) (hxw : x < w) (hy : 0 ≤ y) (hyh : y < h) : 0 ≤ y * w + x ∧ y * w + x < w * h := by
 have h1 : 0 ≤ y * w := Int.mul_nonneg hy (by omega)
 have h2 : (y + 1) * w ≤ h * w := Int.mul_le_mul_of_nonneg_right (by omega) (by omega)
 rw [Int.add_mul, Int.one_mul, Int.mul_comm h w] at h2
 omega
theorem step_eq (w h x y : Int) (cells : List Int) (hw : 1 ≤ w) (hw7 : w ≤ 7) (hh : 1 ≤ h) (hh7 : h ≤ 7) (hl : (cells.length : Int) = w * h) (hb : w * h ≤ 49)
  (hx : -1 ≤ x ∧ x ≤ 7) (hy : -1 ≤ y ∧ y ≤ 49) :
  ((Zay.f w h cells (wrap64 x) (wrap64 y)).bind fun t => if t = true then (if 0 ≤ wrap64 (wrap64 (wrap64 y * w) + wrap64 x) then (if wrap64 (wrap64 (wrap64 y * w) + wrap64 x) < (cells.length : Int) then (if rd cells (wrap64 (wrap64 (wrap64 y * w) + wrap64 x)) = 35 then some (-1) else some (wrap64 (wrap64 (wrap64 y * w) + wrap64 x))) else none) else none) else some (-1)) = some (cellAt w h cells x y) := by
 rw [wrap_s (x := x) (by omega) (by omega), wrap_s (x := y) (by omega) (by omega), tyCell_eq w h x y cells hw hw7 hh hh7, Option.bind_some, cellAt]
 by_cases hc : 0 ≤ x ∧ x < w ∧ 0 ≤ y ∧ y < h
 ·have := prod_lt w h x y hw hc.1 hc.2.1 hc.2.2.1 hc.2.2.2
  have h1 : 0 ≤ y * w := Int.mul_nonneg hc.2.2.1 (by omega)
  rw [wrap_s (x := y * w) (by omega) (by omega), wrap_s (x := y * w + x) (by omega) (by omega)]
  rw [decide_eq_true hc, if_pos rfl, if_pos this.1, if_pos (by omega), if_pos hc]
  split <;> rfl
 ·rw [decide_eq_false hc, if_neg (by simp), if_neg hc]
theorem step_eq' (w h x y : Int) (cells : List Int) (hw : 1 ≤ w) (hw7 : w ≤ 7) (hh : 1 ≤ h) (hh7 : h ≤ 7) (hl : (cells.length : Int) = w * h) (hb : w * h ≤ 49)
  (hx : -1 ≤ x ∧ x ≤ 7) (hy : -1 ≤ y ∧ y ≤ 49) :
  ((Zay.f w h cells x y).bind fun t => if t = true then (if 0 ≤ wrap64 (wrap64 (y * w) + x) then (if wrap64 (wrap64 (y * w) + x) < (cells.length : Int) then (if rd cells (wrap64 (wrap64 (y * w) + x)) = 35 then some (-1) else some (wrap64 (wrap64 (y * w) + x))) else none) else none) else some (-1)) = some (cellAt w h cells x y) := by
 have := step_eq w h x y cells hw hw7 hh hh7 hl hb hx hy
 rw [wrap_s (x := x) (by omega) (by omega), wrap_s (x := y) (by omega) (by omega)] at this
 exact this
def aheadD (w h : Int) (cells : List Int) (i d : Int) : Int :=
 if d = 0 then cellAt w h cells (i % w) (i / w - 1) else if d = 1 then cellAt w h cells (i % w + 1) (i / w)
 else if d = 2 then cellAt w h cells (i % w) (i / w + 1) else cellAt w h cells (i % w - 1) (i / w)
theorem tiAhead_eq (w h i d : Int) (cells : List Int) (hw : 1 ≤ w) (hw7 : w ≤ 7) (hh : 1 ≤ h) (hh7 : h ≤ 7) (hl : (cells.length : Int) = w * h) (hb : w * h ≤ 49) (hi : 0 ≤ i) (hi2 : i < w * h) :
  spec_tiAhead.f w h cells i d = some (aheadD w h cells i d) := by
 have m0 : 0 ≤ i % w := Int.emod_nonneg _ (by omega)
 have m1 : i % w < w := Int.emod_lt_of_pos _ (by omega)
 have d0 : 0 ≤ i / w := Int.ediv_nonneg hi (by omega)
 have d1 : i / w ≤ i := Int.ediv_le_self _ hi
 simp only [spec_tiAhead.f, Int.tmod_eq_emod_of_nonneg hi, Int.tdiv_eq_ediv_of_nonneg hi]
 rw [if_neg (by omega)]
 rw [wrap_s (x := i / w) (by omega) (by omega), wrap_s (x := i / w - 1) (by omega) (by omega), wrap_s (x := i / w + 1) (by omega) (by omega), wrap_s (x := i % w + 1) (by omega) (by omega), wrap_s (x := i % w - 1) (by omega) (by omega)]
 rw [step_eq' w h (i % w) (i / w - 1) cells hw hw7 hh hh7 hl hb (by omega) (by omega), step_eq' w h (i % w + 1) (i / w) cells hw hw7 hh hh7 hl hb (by omega) (by omega),
  step_eq' w h (i % w) (i / w + 1) cells hw hw7 hh hh7 hl hb (by omega) (by omega), step_eq' w h (i % w - 1) (i / w) cells hw hw7 hh hh7 hl hb (by omega) (by omega), aheadD]
 by_cases e0 : d = 0
 ·rw [if_pos e0, if_pos e0]
 ·by_cases e1 : d = 1
  ·rw [if_neg e0, if_neg e0, if_pos e1, if_pos e1]
  ·by_cases e2 : d = 2
   ·rw [if_neg e0, if_neg e0, if_neg e1, if_neg e1, if_pos e2, if_pos e2]
   ·rw [if_neg e0, if_neg e0, if_neg e1, if_neg e1, if_neg e2, if_neg e2]
def chainD (w h : Int) (cells : List Int) (d : Int) : Nat → Int → List Int
 | 0, _ => []
 | n + 1, c => if c ≥ 0 then c :: chainD w h cells d n (aheadD w h cells c d) else []
def stopsD (w h : Int) (cells : List Int) (d : Int) : Nat → Int → Prop
 | 0, c => c < 0
 | n + 1, c => c < 0 ∨ stopsD w h cells d n (aheadD w h cells c d)
theorem cellAt_lt (w h x y : Int) (cells : List Int) (hw : 1 ≤ w) (hb : 0 ≤ w * h) : cellAt w h cells x y < w * h ∨ cellAt w h cells x y = -1 := by
 unfold cellAt
 split
 ·rename_i hc
  have := prod_lt w h x y hw hc.1 hc.2.1 hc.2.2.1 hc.2.2.2
  split <;> omega
 ·omega
theorem aheadD_lt (w h c d : Int) (cells : List Int) (hw : 1 ≤ w) (hb : 0 < w * h) : aheadD w h cells c d < w * h := by
 unfold aheadD
 have := cellAt_lt w h (c % w) (c / w - 1) cells hw (by omega)
 have := cellAt_lt w h (c % w + 1) (c / w) cells hw (by omega)
 have := cellAt_lt w h (c % w) (c / w + 1) cells hw (by omega)
 have := cellAt_lt w h (c % w - 1) (c / w) cells hw (by omega)
 split
 ·omega
 ·split
  ·omega
  ·split <;> omega
theorem chain_ev (w h d i : Int) (cells : List Int) (S : List (List Int)) (hw : 1 ≤ w) (hw7 : w ≤ 7) (hh : 1 ≤ h) (hh7 : h ≤ 7) (hl : (cells.length : Int) = w * h) (hb : w * h ≤ 49) (hp : 0 < w * h)
  (hd : 0 ≤ d ∧ d ≤ 3) (r : List (List Int)) : ∀ (n : Nat) (c : Int) (acc : List Int), c < w * h → stopsD w h cells ((d + 2) % 4) n c → acc.length + n < 1000000 →
   Ev (fun k => Zal.l2 k d S (acc ++ chainD w h cells ((d + 2) % 4) n c) 0 cells (cells.length : Int) i w h cells) r →
   Ev (fun k => Zal.l1 k d S acc c cells (cells.length : Int) i w h cells) r := by
 have ed : Int.tmod (wrap64 (d + 2)) 4 = (d + 2) % 4 := by
  rw [wrap_s (x := d + 2) (by omega) (by omega), Int.tmod_eq_emod_of_nonneg (by omega)]
 intro n
 induction n with
 | zero =>
  intro c acc hc hs ha hr
  rw [chainD, List.append_nil] at hr
  refine Ev.shift hr (fun k => ?_)
  simp only [Zal.l1]
  have : c < 0 := hs
  rw [if_neg (by omega)]
 | succ n ih =>
  intro c acc hc hs ha hr
  by_cases h0 : c ≥ 0
  ·rw [chainD, if_pos h0] at hr
   refine Ev.shift (g := fun k => Zal.l1 k d S (acc ++ [c]) (aheadD w h cells c ((d + 2) % 4)) cells (cells.length : Int) i w h cells) ?_ (fun k => ?_)
   ·refine ih _ _ (aheadD_lt w h c _ cells hw hp) ?_ (by rw [List.length_append, List.length_singleton]; omega) (by simpa using hr)
    rcases hs with hs | hs
    ·omega
    ·exact hs
   ·simp only [Zal.l1]
    rw [if_pos h0, if_pos (by omega), ed, tiAhead_eq w h c _ cells hw hw7 hh hh7 hl hb h0 hc]
    rfl
  ·rw [chainD, if_neg h0, List.append_nil] at hr
   refine Ev.shift hr (fun k => ?_)
   simp only [Zal.l1]
   rw [if_neg h0]
def firstL (l : List Int) : Int := l.foldl leastI (rd l 0)
def insD (r : List Int) : List (List Int) → List (List Int)
 | [] => [r]
 | s :: S => if firstL s < firstL r then s :: insD r S else r :: s :: S
theorem ins_ev (w h d : Int) (i : Nat) (cells : List Int) (S : List (List Int)) (r : List Int) (hi : i < 1000000) (hS : S.length < 1000000) (hr0 : 0 < r.length ∧ r.length < 4294967296) (hn : ∀ s ∈ S, 0 < s.length ∧ s.length < 4294967296)
  (R : List (List Int)) : ∀ (m j : Nat), j + m = S.length →
   Ev (fun k => Zal.l0 k d (S.take j ++ insD r (S.drop j)) cells (cells.length : Int) ((i + 1 : Nat) : Int) w h cells) R →
   Ev (fun k => Zal.l2 k d S r (j : Int) cells (cells.length : Int) (i : Int) w h cells) R := by
 intro m
 induction m with
 | zero =>
  intro j hj hR
  rw [List.drop_eq_nil_of_le (by omega), insD, List.take_of_length_le (by omega)] at hR
  refine Ev.shift hR (fun k => ?_)
  simp only [Zal.l2, Option.bind_some, List.nil_append, Int.toNat_natCast]
  rw [if_neg (by omega), if_pos (by omega), if_pos (by omega), List.take_of_length_le (by omega), List.drop_eq_nil_of_le (by omega)]
  rw [if_pos (by simp only [List.length_nil]; omega), if_pos (by omega), if_pos (by simp only [List.length_append, List.length_singleton, List.length_nil]; omega), List.append_nil, wrap_n i (by omega)]
 | succ m ih =>
  intro j hj hR
  have hlt : j < S.length := by omega
  have hs := hn S[j] (List.getElem_mem _)
  rw [drop_cons S j hlt, insD] at hR
  have e1 := tiFirst_ev S[j] hs.1 hs.2
  have e2 := tiFirst_ev r hr0.1 hr0.2
  have body : Ev (fun k => (spec_tiFirst.f k S[j]).bind fun a => (spec_tiFirst.f k r).bind fun b => if a < b then Zal.l2 k d S r ((j + 1 : Nat) : Int) cells (cells.length : Int) (i : Int) w h cells else Zal.l0 k d (S.take j ++ [r] ++ S.drop j) cells (cells.length : Int) ((i + 1 : Nat) : Int) w h cells) R := by
   refine Ev.bind (g := fun k a => (spec_tiFirst.f k r).bind fun b => if a < b then Zal.l2 k d S r ((j + 1 : Nat) : Int) cells (cells.length : Int) (i : Int) w h cells else Zal.l0 k d (S.take j ++ [r] ++ S.drop j) cells (cells.length : Int) ((i + 1 : Nat) : Int) w h cells) e1 ?_
   refine Ev.bind (g := fun k b => if S[j].foldl leastI (rd S[j] 0) < b then Zal.l2 k d S r ((j + 1 : Nat) : Int) cells (cells.length : Int) (i : Int) w h cells else Zal.l0 k d (S.take j ++ [r] ++ S.drop j) cells (cells.length : Int) ((i + 1 : Nat) : Int) w h cells) e2 ?_
   by_cases hf : firstL S[j] < firstL r
   ·rw [if_pos hf] at hR
    refine Ev.congr (ih (j + 1) (by omega) ?_) (fun k => if_pos hf)
    rw [← List.take_append_getElem hlt, List.append_assoc]
    exact hR
   ·rw [if_neg hf] at hR
    refine Ev.congr ?_ (fun k => if_neg hf)
    rw [drop_cons S j hlt, List.append_assoc]
    exact hR
  refine Ev.shift body (fun k => ?_)
  simp only [Zal.l2, Option.bind_some, List.nil_append, Int.toNat_natCast]
  rw [if_pos (by omega), if_pos (by omega), rdL_n S j hlt, wrap_n j (by omega), wrap_n i (by omega)]
  have t : (S.take j).length = j := by rw [List.length_take]; omega
  have u : (S.drop j).length = S.length - j := List.length_drop
  simp only [List.length_append, List.length_singleton, List.length_nil, t, u]
  rw [if_pos (show (j : Int) ≤ (S.length : Int) by omega), if_pos (show 0 + j < 5864062014805 by omega), if_pos (show j < 5864062014805 by omega), if_pos (show j + 1 + (S.length - j) < 5864062014805 by omega)]
theorem chainD_length (w h : Int) (cells : List Int) (d : Int) : ∀ (n : Nat) (c : Int), (chainD w h cells d n c).length ≤ n
 | 0, _ => by simp [chainD]
 | n + 1, c => by
  rw [chainD]
  split
  ·have := chainD_length w h cells d n (aheadD w h cells c d)
   simp only [List.length_cons]; omega
  ·simp
theorem insD_mem (r x : List Int) : ∀ S, x ∈ insD r S ↔ x = r ∨ x ∈ S
 | [] => by simp [insD]
 | s :: S => by
  have := insD_mem r x S
  rw [insD]
  split
  ·simp only [List.mem_cons, this]
   constructor
   ·rintro (h | h | h) <;> simp [h]
   ·rintro (h | h | h) <;> simp [h]
  ·simp only [List.mem_cons]
theorem insD_length (r : List Int) : ∀ S, (insD r S).length = S.length + 1
 | [] => by simp [insD]
 | s :: S => by
  have := insD_length r S
  rw [insD]
  split
  ·simp only [List.length_cons]; omega
  ·simp only [List.length_cons]
def stepS (w h : Int) (cells : List Int) (d : Int) (S : List (List Int)) (i : Nat) : List (List Int) :=
 if rd cells i = 35 then S else if aheadD w h cells i d ≥ 0 then S else insD ((i : Int) :: chainD w h cells ((d + 2) % 4) 8 (aheadD w h cells i ((d + 2) % 4))) S
def stretchesD (w h : Int) (cells : List Int) (d : Int) : List (List Int) := (List.range cells.length).foldl (stepS w h cells d) []
theorem tiStretches_ev0 (w h d : Int) (cells : List Int) (hw : 1 ≤ w) (hw7 : w ≤ 7) (hh : 1 ≤ h) (hh7 : h ≤ 7) (hl : (cells.length : Int) = w * h) (hb : w * h ≤ 49) (hp : 0 < w * h) (hd : 0 ≤ d ∧ d ≤ 3)
  (hst : ∀ i : Nat, i < cells.length → stopsD w h cells ((d + 2) % 4) 8 (aheadD w h cells i ((d + 2) % 4))) :
  Ev (fun k => Zal.f k w h cells d) (stretchesD w h cells d) := by
 have ed : Int.tmod (wrap64 (d + 2)) 4 = (d + 2) % 4 := by
  rw [wrap_s (x := d + 2) (by omega) (by omega), Int.tmod_eq_emod_of_nonneg (by omega)]
 have main : ∀ (m i : Nat) (S : List (List Int)), i + m = cells.length → S.length ≤ i → (∀ s ∈ S, 0 < s.length ∧ s.length < 4294967296) →
   Ev (fun k => Zal.l0 k d S cells (cells.length : Int) (i : Int) w h cells) ((List.range' i m).foldl (stepS w h cells d) S) := by
  intro m
  induction m with
  | zero =>
   intro i S hi hS hn
   refine Ev.shift (g := fun _ => some S) (Ev.const rfl) (fun k => ?_)
   simp only [Zal.l0]
   rw [if_neg (by omega)]
  | succ m ih =>
   intro i S hi hS hn
   rw [List.range'_succ, List.foldl_cons]
   have hA := tiAhead_eq w h i d cells hw hw7 hh hh7 hl hb (by omega) (by omega)
   have hB := tiAhead_eq w h i ((d + 2) % 4) cells hw hw7 hh hh7 hl hb (by omega) (by omega)
   have skip : stepS w h cells d S i = S → Ev (fun k => Zal.j1 k d S (i : Int) cells (cells.length : Int) (i : Int) true w h cells) ((List.range' (i + 1) m).foldl (stepS w h cells d) (stepS w h cells d S i)) := by
    intro e
    rw [e]
    refine Ev.shift (ih (i + 1) S (by omega) (by omega) hn) (fun k => ?_)
    simp only [Zal.j1]
    rw [if_pos trivial, wrap_n i (by omega)]
   by_cases h1 : rd cells i = 35
   ·refine Ev.shift (skip (by rw [stepS, if_pos h1])) (fun k => ?_)
    simp only [Zal.l0]
    rw [if_pos (by omega), if_pos (by omega), if_pos (by omega), if_pos h1]
   ·by_cases h2 : aheadD w h cells i d ≥ 0
    ·refine Ev.shift (skip (by rw [stepS, if_neg h1, if_pos h2])) (fun k => ?_)
     simp only [Zal.l0]
     rw [if_pos (by omega), if_pos (by omega), if_pos (by omega), if_neg h1, hA, Option.bind_some, decide_eq_true h2]
    ·refine Ev.shift (g := fun k => Zal.j1 k d S (i : Int) cells (cells.length : Int) (i : Int) false w h cells) ?_ (fun k => ?_)
     ·refine Ev.shift (g := fun k => Zal.l1 k d S [(i : Int)] (aheadD w h cells i ((d + 2) % 4)) cells (cells.length : Int) (i : Int) w h cells) ?_ (fun k => ?_)
      ·have hc := chainD_length w h cells ((d + 2) % 4) 8 (aheadD w h cells i ((d + 2) % 4))
       refine chain_ev w h d i cells S hw hw7 hh hh7 hl hb hp hd _ 8 _ _ (aheadD_lt w h i _ cells hw hp) (hst i (by omega)) (by simp) ?_
       refine ins_ev w h d i cells S _ (by omega) (by omega) ⟨by simp, by simp only [List.length_append, List.length_singleton]; omega⟩ hn _ S.length 0 (by omega) ?_
       have e : stepS w h cells d S i = insD ((i : Int) :: chainD w h cells ((d + 2) % 4) 8 (aheadD w h cells i ((d + 2) % 4))) S := by
        rw [stepS, if_neg h1, if_neg h2]
       rw [e]
       have := ih (i + 1) (insD ((i : Int) :: chainD w h cells ((d + 2) % 4) 8 (aheadD w h cells i ((d + 2) % 4))) S) (by omega) (by rw [insD_length]; omega) (by
        intro s hs
        rw [insD_mem] at hs
        rcases hs with hs | hs
        ·rw [hs]; simp only [List.length_cons]; omega
        ·exact hn s hs)
       simpa using this
      ·simp only [Zal.j1]
       rw [if_neg (by simp), ed, hB, Option.bind_some]
     ·simp only [Zal.l0]
      rw [if_pos (by omega), if_pos (by omega), if_pos (by omega), if_neg h1, hA, Option.bind_some, decide_eq_false h2]
 have := main cells.length 0 [] (by omega) (by simp) (by simp)
 refine Ev.congr (g := fun k => Zal.l0 k d [] cells (cells.length : Int) 0 w h cells) ?_ (fun k => rfl)
 rw [stretchesD, List.range_eq_range']
 simpa using this
theorem cellAt_cases (w h x y : Int) (cells : List Int) (hw : 1 ≤ w) : cellAt w h cells x y = -1 ∨ (0 ≤ x ∧ x < w ∧ 0 ≤ y ∧ y < h ∧ cellAt w h cells x y / w = y ∧ cellAt w h cells x y % w = x ∧ 0 ≤ cellAt w h cells x y) := by
 unfold cellAt
 by_cases hc : 0 ≤ x ∧ x < w ∧ 0 ≤ y ∧ y < h
 ·have hp := prod_lt w h x y hw hc.1 hc.2.1 hc.2.2.1 hc.2.2.2
  rw [if_pos hc]
  by_cases h35 : rd cells (y * w + x) = 35
  ·rw [if_pos h35]; exact Or.inl rfl
  ·rw [if_neg h35]
   refine Or.inr ⟨hc.1, hc.2.1, hc.2.2.1, hc.2.2.2, ?_, ?_, hp.1⟩
   ·rw [Int.add_comm, Int.add_mul_ediv_right _ _ (by omega), Int.ediv_eq_zero_of_lt hc.1 hc.2.1, Int.zero_add]
   ·rw [Int.add_comm, Int.add_mul_emod_self_right, Int.emod_eq_of_lt hc.1 hc.2.1]
 ·rw [if_neg hc]; exact Or.inl rfl
def measD (w h c d : Int) : Int := if d = 0 then c / w else if d = 1 then w - 1 - c % w else if d = 2 then h - 1 - c / w else c % w
theorem stopsD_of (w h d : Int) (cells : List Int) (hw : 1 ≤ w) : ∀ (n : Nat) (c : Int), (c < 0 ∨ (0 ≤ measD w h c d ∧ measD w h c d < n)) → stopsD w h cells d n c
 | 0, c => by
  intro hc
  show c < 0
  omega
 | n + 1, c => by
  intro hc
  show c < 0 ∨ stopsD w h cells d n (aheadD w h cells c d)
  rcases hc with hc | hc
  ·exact Or.inl hc
  ·refine Or.inr (stopsD_of w h d cells hw n _ ?_)
   unfold aheadD measD at *
   by_cases e0 : d = 0
   ·simp only [if_pos e0] at hc ⊢
    rcases cellAt_cases w h (c % w) (c / w - 1) cells hw with q | q <;> omega
   ·by_cases e1 : d = 1
    ·simp only [if_neg e0, if_pos e1] at hc ⊢
     rcases cellAt_cases w h (c % w + 1) (c / w) cells hw with q | q <;> omega
    ·by_cases e2 : d = 2
     ·simp only [if_neg e0, if_neg e1, if_pos e2] at hc ⊢
      rcases cellAt_cases w h (c % w) (c / w + 1) cells hw with q | q <;> omega
     ·simp only [if_neg e0, if_neg e1, if_neg e2] at hc ⊢
      rcases cellAt_cases w h (c % w - 1) (c / w) cells hw with q | q <;> omega
theorem measD_le (w h c d : Int) (hw : 1 ≤ w) (hw7 : w ≤ 7) (hh : 1 ≤ h) (hh7 : h ≤ 7) (hc : 0 ≤ c) (hc2 : c < w * h) : 0 ≤ measD w h c d ∧ measD w h c d < 8 := by
 have m0 : 0 ≤ c % w := Int.emod_nonneg _ (by omega)
 have m1 : c % w < w := Int.emod_lt_of_pos _ (by omega)
 have d0 : 0 ≤ c / w := Int.ediv_nonneg hc (by omega)
 have d1 : c / w < h := Int.ediv_lt_of_lt_mul (by omega) (by rw [Int.mul_comm]; exact hc2)
 unfold measD
 split
 ·omega
 ·split
  ·omega
  ·split <;> omega
theorem tiStretches_ev (w h d : Int) (cells : List Int) (hw : 1 ≤ w) (hw7 : w ≤ 7) (hh : 1 ≤ h) (hh7 : h ≤ 7) (hl : (cells.length : Int) = w * h) (hb : w * h ≤ 49) (hp : 0 < w * h) (hd : 0 ≤ d ∧ d ≤ 3) :
  Ev (fun k => Zal.f k w h cells d) (stretchesD w h cells d) := by
 refine tiStretches_ev0 w h d cells hw hw7 hh hh7 hl hb hp hd (fun i hi => stopsD_of w h _ cells hw 8 _ ?_)
 by_cases h0 : aheadD w h cells i ((d + 2) % 4) < 0
 ·exact Or.inl h0
 ·exact Or.inr (measD_le w h _ _ hw hw7 hh hh7 (by omega) (aheadD_lt w h i _ cells hw hp))
def runD (w h : Int) (cells : List Int) (d : Int) (i : Nat) : List Int := (i : Int) :: chainD w h cells ((d + 2) % 4) 8 (aheadD w h cells i ((d + 2) % 4))
def headD (w h : Int) (cells : List Int) (d : Int) (i : Nat) : Prop := rd cells i ≠ 35 ∧ aheadD w h cells i d < 0
theorem mem_fold (w h : Int) (cells : List Int) (d : Int) (x : List Int) : ∀ (L : List Nat) (S : List (List Int)), x ∈ L.foldl (stepS w h cells d) S ↔ x ∈ S ∨ ∃ i ∈ L, headD w h cells d i ∧ x = runD w h cells d i
 | [], S => by simp
 | i :: L, S => by
  rw [List.foldl_cons, mem_fold w h cells d x L]
  have e : x ∈ stepS w h cells d S i ↔ x ∈ S ∨ (headD w h cells d i ∧ x = runD w h cells d i) := by
   unfold stepS headD
   by_cases h1 : rd cells i = 35
   ·rw [if_pos h1]; simp [h1]
   ·rw [if_neg h1]
    by_cases h2 : aheadD w h cells i d ≥ 0
    ·rw [if_pos h2]
     constructor
     ·exact Or.inl
     ·rintro (q | q)
      ·exact q
      ·omega
    ·rw [if_neg h2, insD_mem]
     constructor
     ·rintro (q | q)
      ·exact Or.inr ⟨⟨h1, by omega⟩, q⟩
      ·exact Or.inl q
     ·rintro (q | q)
      ·exact Or.inr q
      ·exact Or.inl q.2
  rw [e]
  simp only [List.mem_cons, exists_eq_or_imp]
  exact or_assoc
theorem mem_stretchesD (w h : Int) (cells : List Int) (d : Int) (x : List Int) : x ∈ stretchesD w h cells d ↔ ∃ i < cells.length, headD w h cells d i ∧ x = runD w h cells d i := by
 rw [stretchesD, mem_fold]
 simp
theorem chainD_in (w h : Int) (cells : List Int) (d : Int) (hw : 1 ≤ w) (hp : 0 < w * h) (hl : (cells.length : Int) = w * h) : ∀ (n : Nat) (c : Int), c < w * h → ∀ k ∈ chainD w h cells d n c, 0 ≤ k ∧ k < cells.length
 | 0, _, _, k, hk => by simp [chainD] at hk
 | n + 1, c, hc, k, hk => by
  rw [chainD] at hk
  split at hk
  ·rcases List.mem_cons.1 hk with q | q
   ·subst q; omega
   ·exact chainD_in w h cells d hw hp hl n _ (aheadD_lt w h c d cells hw hp) k q
  ·simp at hk
theorem stretchesD_in (w h : Int) (cells : List Int) (d : Int) (hw : 1 ≤ w) (hp : 0 < w * h) (hl : (cells.length : Int) = w * h) : InC cells (stretchesD w h cells d) := by
 intro s hs k hk
 rw [mem_stretchesD] at hs
 obtain ⟨i, hi, _, rfl⟩ := hs
 rcases List.mem_cons.1 hk with q | q
 ·subst q; omega
 ·exact chainD_in w h cells _ hw hp hl 8 _ (aheadD_lt w h i _ cells hw hp) k q
theorem stretchesD_short (w h : Int) (cells : List Int) (d : Int) : ∀ s ∈ stretchesD w h cells d, s.length ≤ 9 := by
 intro s hs
 rw [mem_stretchesD] at hs
 obtain ⟨i, hi, _, rfl⟩ := hs
 have := chainD_length w h cells ((d + 2) % 4) 8 (aheadD w h cells i ((d + 2) % 4))
 simp only [runD, List.length_cons]; omega
def udB (d : Int) : Bool := d == 117 || d == 100
def rvB (d : Int) : Bool := d == 114 || d == 100
def isD (d : Int) : Prop := d = 117 ∨ d = 114 ∨ d = 100 ∨ d = 108
def numL (w : Nat) (d : Int) (i k : Nat) : Int := if udB d = true then ((k * w + i : Nat) : Int) else ((i * w + k : Nat) : Int)
def longL (w h : Nat) (d : Int) : Nat := if udB d = true then h else w
def manyL (w h : Nat) (d : Int) : Nat := if udB d = true then w else h
def finL (d : Int) (l : List Int) : List Int := if rvB d = true then l.reverse else l
def lineL (w h : Nat) (d : Int) (i : Nat) : List Int := finL d ((List.range (longL w h d)).map (numL w d i))
def linesL (w h : Nat) (d : Int) : List (List Int) := (List.range (manyL w h d)).map (lineL w h d)
theorem lines_ev (w h : Nat) (hw : w ≤ 1000) (hh : h ≤ 1000) (l : List Int) (d : Int) (hd : isD d) : Ev (fun k => Zao.f k w h l d) (linesL w h d) := by
 have bd : ∀ a b : Nat, a ≤ 1000 → b ≤ 1000 → a * b ≤ 1000000 := fun a b ha hb => Nat.mul_le_mul ha hb
 have hud : ∀ (x : Nat), longL w h d = x → x ≤ 1000 := by
  intro x hx; unfold longL at hx; split at hx <;> omega
 have hmd : manyL w h d ≤ 1000 := by
  unfold manyL; split <;> omega
 have num : ∀ i k : Nat, i ≤ 1000 → k ≤ 1000 → ∀ (S : List (List Int)) (acc : List Int) (r : List (List Int)) (many long : Int), acc.length ≤ 1000 →
   Ev (fun n => Zao.l1 n d S long i (acc ++ [numL w d i k]) many i long ((k + 1 : Nat) : Int) w h l) r →
   Ev (fun n => Zao.j4 n d S long i acc k many i long k (udB d) w h l) r := by
  intro i k hi hk S acc r many long ha hr
  have b1 := bd k w hk hw
  have b2 := bd i w hi hw
  refine Ev.shift hr (fun n => ?_)
  simp only [Zao.j4, impl_tray_number.f, Option.bind_some]
  rw [wrap_n k (by omega), if_pos (show acc.length < 17592186044416 by omega), if_pos (show acc.length < 17592186044416 by omega)]
  unfold numL
  have e1 : wrap64 (wrap64 ((k : Int) * (w : Int)) + (i : Int)) = ((k * w + i : Nat) : Int) := by
   have c : ((k : Int) * (w : Int)) = ((k * w : Nat) : Int) := by simp
   rw [c, wrap_s (x := ((k * w : Nat) : Int)) (by omega) (by omega), wrap_s (by omega) (by omega)]; omega
  have e2 : wrap64 (wrap64 ((i : Int) * (w : Int)) + (k : Int)) = ((i * w + k : Nat) : Int) := by
   have c : ((i : Int) * (w : Int)) = ((i * w : Nat) : Int) := by simp
   rw [c, wrap_s (x := ((i * w : Nat) : Int)) (by omega) (by omega), wrap_s (by omega) (by omega)]; omega
  rw [e1, e2]
  cases udB d <;> rfl
 have inner : ∀ (i : Nat) (hi : i ≤ 1000) (S : List (List Int)) (hS : S.length ≤ 1000000) (r : List (List Int)) (m j : Nat) (acc : List Int), j + m = longL w h d → acc.length ≤ j →
   Ev (fun n => Zao.l0 n d (S ++ [finL d (acc ++ (List.range' j m).map (numL w d i))]) (longL w h d : Nat) (manyL w h d : Nat) ((i + 1 : Nat) : Int) w h l) r →
   Ev (fun n => Zao.l1 n d S (longL w h d : Nat) i acc (manyL w h d : Nat) i (longL w h d : Nat) j w h l) r := by
  intro i hi S hS r m
  have hL := hud _ rfl
  induction m with
  | zero =>
   intro j acc hj ha hr
   refine Ev.shift hr (fun n => ?_)
   simp only [Zao.l1, List.range'_zero, List.map_nil, List.append_nil]
   rw [if_neg (by omega), wrap_n i (by omega), if_pos (show S.length < 5864062014805 by omega)]
   unfold slices_Reverse_int_int.f finL rvB
   rw [if_pos (show acc.length ≤ 9223372036854775807 by omega)]
   have hS' : S.length < 5864062014805 := by omega
   rcases hd with rfl | rfl | rfl | rfl <;> simp [hS']
  | succ m ih =>
   intro j acc hj ha hr
   refine Ev.shift (g := fun n => Zao.j4 n d S (longL w h d : Nat) i acc j (manyL w h d : Nat) i (longL w h d : Nat) j (udB d) w h l) ?_ (fun n => ?_)
   ·refine num i j hi (by omega) S acc r _ _ (by omega) ?_
    refine ih (j + 1) (acc ++ [numL w d i j]) (by omega) (by simp; omega) ?_
    rw [List.range'_succ, List.map_cons] at hr
    simpa using hr
   ·simp only [Zao.l1]
    rw [if_pos (by omega)]
    unfold udB
    by_cases e : d = 117
    ·rw [if_pos e, e]; rfl
    ·rw [if_neg e, show (d == 117) = false by simpa using e, Bool.false_or]
 have outer : ∀ (m i : Nat) (S : List (List Int)), i + m = manyL w h d → S.length ≤ i →
   Ev (fun n => Zao.l0 n d S (longL w h d : Nat) (manyL w h d : Nat) i w h l) (S ++ (List.range' i m).map (lineL w h d)) := by
  intro m
  induction m with
  | zero =>
   intro i S hi hS
   refine Ev.shift (g := fun _ => some S) (Ev.const (by simp)) (fun n => ?_)
   simp only [Zao.l0]
   rw [if_neg (by omega)]
  | succ m ih =>
   intro i S hi hS
   refine Ev.shift (g := fun n => Zao.l1 n d S (longL w h d : Nat) i [] (manyL w h d : Nat) i (longL w h d : Nat) (0 : Nat) w h l) ?_ (fun n => ?_)
   ·refine inner i (by omega) S (by omega) _ (longL w h d) 0 [] (by omega) (by simp) ?_
    have := ih (i + 1) (S ++ [lineL w h d i]) (by omega) (by simp; omega)
    rw [List.range'_succ, List.map_cons]
    rw [List.nil_append, ← List.range_eq_range']
    simpa [lineL] using this
   ·simp only [Zao.l0]
    rw [if_pos (by omega)]
    rfl
 have start := outer (manyL w h d) 0 [] (by omega) (by simp)
 rw [← List.range_eq_range'] at start
 have start2 : Ev (fun n => Zao.j1 n d [] (manyL w h d : Nat) (longL w h d : Nat) w h l) (linesL w h d) := Ev.shift start (fun n => by simp only [Zao.j1]; rfl)
 have start3 : Ev (fun n => Zao.j0 n d [] (h : Int) (w : Int) (udB d) w h l) (linesL w h d) := by
  refine Ev.shift start2 (fun n => ?_)
  simp only [Zao.j0]
  unfold manyL longL
  cases udB d <;> rfl
 refine Ev.congr start3 (fun n => ?_)
 unfold Zao.f udB
 simp only [Option.bind_some]
 by_cases e : d = 117
 ·rw [if_pos e, e]; rfl
 ·rw [if_neg e, show (d == 117) = false by simpa using e, Bool.false_or]
def splitR (cells : List Int) : List Int → List Int → List (List Int)
 | acc, [] => if acc = [] then [] else [acc]
 | acc, k :: ks => if rd cells k = 35 then (if acc = [] then splitR cells [] ks else acc :: splitR cells [] ks) else splitR cells (acc ++ [k]) ks
def nwB (cells : List Int) (k : Int) : Bool := rd cells k != 35
def headsR (cells : List Int) : Bool → List Int → List (List Int)
 | _, [] => []
 | b, k :: ks => if rd cells k = 35 then headsR cells false ks else if b = true then headsR cells true ks else (k :: ks.takeWhile (nwB cells)) :: headsR cells true ks
theorem splitR_eq (cells : List Int) : ∀ (l acc : List Int), splitR cells acc l = if acc = [] then headsR cells false l else (acc ++ l.takeWhile (nwB cells)) :: headsR cells true l
 | [], acc => by
  by_cases h : acc = [] <;> simp [splitR, headsR, h]
 | k :: ks, acc => by
  by_cases h : acc = [] <;> by_cases hk : rd cells k = 35 <;> simp [splitR, headsR, h, hk, splitR_eq cells ks, List.takeWhile_cons, nwB]
theorem splitR_length (cells : List Int) : ∀ (l acc : List Int), (splitR cells acc l).length ≤ l.length + 1
 | [], acc => by
  by_cases h : acc = [] <;> simp [splitR, h]
 | k :: ks, acc => by
  have h1 := splitR_length cells ks []
  have h2 := splitR_length cells ks (acc ++ [k])
  rw [splitR]
  split
  ·split
   ·simp only [List.length_cons]; omega
   ·simp only [List.length_cons]; omega
  ·simp only [List.length_cons]; omega
def runsL (cells : List Int) (L : List (List Int)) : List (List Int) := L.flatMap (splitR cells [])
theorem stretches_loop (w h : Int) (cells : List Int) (L : List (List Int)) (hL : L.length ≤ 1000) (hl : ∀ line ∈ L, line.length ≤ 1000) (hin : InC cells L) (R : List (List Int))
  (hR : Za3.f (runsL cells L) = some R) : Ev (fun n => Zas.l0 n [] L (L.length : Int) 0 w h cells) R := by
 have inner : ∀ (i : Nat) (hi : i < L.length) (r : List (List Int)) (m j : Nat) (S : List (List Int)) (acc : List Int), j + m = L[i].length → S.length + m < 5000000 → acc.length ≤ j →
   Ev (fun n => Zas.l0 n (S ++ splitR cells acc (L[i].drop j)) L (L.length : Int) ((i + 1 : Nat) : Int) w h cells) r →
   Ev (fun n => Zas.l1 n S acc L (L.length : Int) i L[i] (L[i].length : Int) j w h cells) r := by
  intro i hi r m
  have hli := hl L[i] (List.getElem_mem _)
  induction m with
  | zero =>
   intro j S acc hj hS ha hr
   refine Ev.shift hr (fun n => ?_)
   simp only [Zas.l1]
   rw [if_neg (by omega), wrap_n i (by omega), List.drop_eq_nil_of_le (by omega), splitR, if_pos (show S.length < 5864062014805 by omega)]
   by_cases e : acc = []
   ·rw [if_pos e, e, if_neg (by simp), List.append_nil]
   ·rw [if_neg e, if_pos (by have := List.length_pos_iff.2 e; omega)]
  | succ m ih =>
   intro j S acc hj hS ha hr
   have hlt : j < L[i].length := by omega
   have hc := hin L[i] (List.getElem_mem _) L[i][j] (List.getElem_mem _)
   rw [drop_cons _ j hlt, splitR] at hr
   by_cases h35 : rd cells L[i][j] = 35
   ·rw [if_pos h35] at hr
    by_cases e : acc = []
    ·rw [if_pos e] at hr
     refine Ev.shift (ih (j + 1) S [] (by omega) (by omega) (by simp) hr) (fun n => ?_)
     simp only [Zas.l1]
     rw [if_pos (by omega), if_pos (by omega), if_pos (by omega), rd_n _ _ hlt, if_pos hc.1, if_pos hc.2, if_pos h35, e, if_neg (by simp), wrap_n j (by omega)]
    ·rw [if_neg e] at hr
     refine Ev.shift (ih (j + 1) (S ++ [acc]) [] (by omega) (by rw [List.length_append, List.length_singleton]; omega) (by simp) (by simpa using hr)) (fun n => ?_)
     simp only [Zas.l1]
     rw [if_pos (by omega), if_pos (by omega), if_pos (by omega), rd_n _ _ hlt, if_pos hc.1, if_pos hc.2, if_pos h35, if_pos (by have := List.length_pos_iff.2 e; omega), if_pos (show S.length < 5864062014805 by omega), wrap_n j (by omega)]
   ·rw [if_neg h35] at hr
    refine Ev.shift (ih (j + 1) S (acc ++ [L[i][j]]) (by omega) (by omega) (by rw [List.length_append, List.length_singleton]; omega) hr) (fun n => ?_)
    simp only [Zas.l1]
    rw [if_pos (by omega), if_pos (by omega), if_pos (by omega), rd_n _ _ hlt, if_pos hc.1, if_pos hc.2, if_neg h35, if_pos (show acc.length < 17592186044416 by omega), wrap_n j (by omega)]
 have outer : ∀ (m i : Nat) (S : List (List Int)), i + m = L.length → S.length ≤ i * 1001 → S ++ runsL cells (L.drop i) = runsL cells L → Ev (fun n => Zas.l0 n S L (L.length : Int) (i : Int) w h cells) R := by
  intro m
  induction m with
  | zero =>
   intro i S hi hS he
   rw [List.drop_eq_nil_of_le (by omega), runsL, List.flatMap_nil, List.append_nil] at he
   rw [← he] at hR
   refine Ev.shift (g := fun _ => some R) (Ev.const rfl) (fun n => ?_)
   simp only [Zas.l0]
   rw [if_neg (by omega), hR]
  | succ m ih =>
   intro i S hi hS he
   have hlt : i < L.length := by omega
   have hli := hl L[i] (List.getElem_mem _)
   refine Ev.shift (g := fun n => Zas.l1 n S [] L (L.length : Int) i L[i] (L[i].length : Int) (0 : Nat) w h cells) ?_ (fun n => ?_)
   ·refine inner i hlt _ L[i].length 0 S [] (Nat.zero_add _) (by omega) (by simp) ?_
    have := splitR_length cells L[i] []
    have := ih (i + 1) (S ++ splitR cells [] L[i]) (by omega) (by rw [List.length_append]; omega) (by rw [← he, drop_cons L i hlt]; simp only [runsL, List.flatMap_cons, List.append_assoc])
    simpa using this
   ·simp only [Zas.l0]
    rw [if_pos (by omega), if_pos (by omega), if_pos (by omega), rdL_n L i hlt]
    rfl
 have := outer L.length 0 [] (by simp) (by simp) (by simp)
 simpa using this
def dI (d : Int) : Int := if d = 117 then 0 else if d = 114 then 1 else if d = 100 then 2 else 3
def wallW (cells : List Int) (c : Int) : Int := if rd cells c = 35 then -1 else c
def posL (w h : Nat) (d : Int) (i k : Nat) : Int := numL w d i (if rvB d = true then longL w h d - 1 - k else k)
theorem lineL_eq (w h : Nat) (d : Int) (i : Nat) : lineL w h d i = (List.range (longL w h d)).map (posL w h d i) := by
 unfold lineL finL posL
 cases rvB d
 ·simp
 ·simp only [if_true]
  apply List.ext_getElem
  ·simp
  ·intro n h1 h2
   simp [List.getElem_reverse]
theorem num_mod (w i k : Nat) (hi : i < w) : ((k * w + i : Nat) : Int) % (w : Int) = i ∧ ((k * w + i : Nat) : Int) / (w : Int) = k := by
 constructor
 ·have : (k * w + i) % w = i := by rw [Nat.add_comm, Nat.add_mul_mod_self_right, Nat.mod_eq_of_lt hi]
  omega
 ·have : (k * w + i) / w = k := by rw [Nat.add_comm, Nat.add_mul_div_right _ _ (by omega), Nat.div_eq_of_lt hi, Nat.zero_add]
  omega
theorem cellAt_in (w h : Nat) (cells : List Int) (x y : Int) (xn yn : Nat) (ex : x = xn) (ey : y = yn) (hx : xn < w) (hy : yn < h) : cellAt w h cells x y = wallW cells ((yn * w + xn : Nat) : Int) := by
 subst ex ey
 have e : ((yn : Int) * (w : Int) + (xn : Int)) = ((yn * w + xn : Nat) : Int) := by simp
 unfold cellAt wallW
 rw [if_pos (by omega), e]
theorem cellAt_out (w h : Nat) (cells : List Int) (x y : Int) (hx : x < 0 ∨ (w : Int) ≤ x ∨ y < 0 ∨ (h : Int) ≤ y) : cellAt w h cells x y = -1 := by
 unfold cellAt
 rw [if_neg (by omega)]
theorem ahead0 (w h : Int) (cells : List Int) (c : Int) : aheadD w h cells c 0 = cellAt w h cells (c % w) (c / w - 1) := by simp [aheadD]
theorem ahead1 (w h : Int) (cells : List Int) (c : Int) : aheadD w h cells c 1 = cellAt w h cells (c % w + 1) (c / w) := by simp [aheadD]
theorem ahead2 (w h : Int) (cells : List Int) (c : Int) : aheadD w h cells c 2 = cellAt w h cells (c % w) (c / w + 1) := by simp [aheadD]
theorem ahead3 (w h : Int) (cells : List Int) (c : Int) : aheadD w h cells c 3 = cellAt w h cells (c % w - 1) (c / w) := by simp [aheadD]
theorem link_ahead (w h : Nat) (cells : List Int) (d : Int) (hd : isD d) (i k : Nat) (hi : i < manyL w h d) (hk : k < longL w h d) :
  aheadD w h cells (posL w h d i k) (dI d) = (if k = 0 then -1 else wallW cells (posL w h d i (k - 1))) ∧
  aheadD w h cells (posL w h d i k) ((dI d + 2) % 4) = (if k + 1 < longL w h d then wallW cells (posL w h d i (k + 1)) else -1) := by
 rcases hd with rfl | rfl | rfl | rfl
 ·have e1 : manyL w h 117 = w := rfl
  have e2 : longL w h 117 = h := rfl
  have e3 : ∀ k, posL w h 117 i k = ((k * w + i : Nat) : Int) := fun k => rfl
  rw [e1] at hi; rw [e2] at hk
  have m := num_mod w i k hi
  simp only [e2, e3]
  rw [show dI 117 = 0 from rfl, show ((0 : Int) + 2) % 4 = 2 from rfl]
  simp only [ahead0, ahead1, ahead2, ahead3, m.1, m.2]
  constructor
  ·by_cases h0 : k = 0
   ·rw [if_pos h0]; exact cellAt_out _ _ _ _ _ (by omega)
   ·rw [if_neg h0]; exact cellAt_in _ _ _ _ _ i (k - 1) rfl (by omega) hi (by omega)
  ·by_cases h0 : k + 1 < h
   ·rw [if_pos h0]; exact cellAt_in _ _ _ _ _ i (k + 1) rfl (by omega) hi (by omega)
   ·rw [if_neg h0]; exact cellAt_out _ _ _ _ _ (by omega)
 ·have e1 : manyL w h 114 = h := rfl
  have e2 : longL w h 114 = w := rfl
  have e3 : ∀ k, posL w h 114 i k = ((i * w + (w - 1 - k) : Nat) : Int) := fun k => rfl
  rw [e1] at hi; rw [e2] at hk
  have m := num_mod w (w - 1 - k) i (by omega)
  simp only [e2, e3]
  rw [show dI 114 = 1 from rfl, show ((1 : Int) + 2) % 4 = 3 from rfl]
  simp only [ahead0, ahead1, ahead2, ahead3, m.1, m.2]
  constructor
  ·by_cases h0 : k = 0
   ·rw [if_pos h0]; exact cellAt_out _ _ _ _ _ (by omega)
   ·rw [if_neg h0]; exact cellAt_in _ _ _ _ _ (w - 1 - (k - 1)) i (by omega) rfl (by omega) hi
  ·by_cases h0 : k + 1 < w
   ·rw [if_pos h0]; exact cellAt_in _ _ _ _ _ (w - 1 - (k + 1)) i (by omega) rfl (by omega) hi
   ·rw [if_neg h0]; exact cellAt_out _ _ _ _ _ (by omega)
 ·have e1 : manyL w h 100 = w := rfl
  have e2 : longL w h 100 = h := rfl
  have e3 : ∀ k, posL w h 100 i k = (((h - 1 - k) * w + i : Nat) : Int) := fun k => rfl
  rw [e1] at hi; rw [e2] at hk
  have m := num_mod w i (h - 1 - k) hi
  simp only [e2, e3]
  rw [show dI 100 = 2 from rfl, show ((2 : Int) + 2) % 4 = 0 from rfl]
  simp only [ahead0, ahead1, ahead2, ahead3, m.1, m.2]
  constructor
  ·by_cases h0 : k = 0
   ·rw [if_pos h0]; exact cellAt_out _ _ _ _ _ (by omega)
   ·rw [if_neg h0]; exact cellAt_in _ _ _ _ _ i (h - 1 - (k - 1)) rfl (by omega) hi (by omega)
  ·by_cases h0 : k + 1 < h
   ·rw [if_pos h0]; exact cellAt_in _ _ _ _ _ i (h - 1 - (k + 1)) rfl (by omega) hi (by omega)
   ·rw [if_neg h0]; exact cellAt_out _ _ _ _ _ (by omega)
 ·have e1 : manyL w h 108 = h := rfl
  have e2 : longL w h 108 = w := rfl
  have e3 : ∀ k, posL w h 108 i k = ((i * w + k : Nat) : Int) := fun k => rfl
  rw [e1] at hi; rw [e2] at hk
  have m := num_mod w k i hk
  simp only [e2, e3]
  rw [show dI 108 = 3 from rfl, show ((3 : Int) + 2) % 4 = 1 from rfl]
  simp only [ahead0, ahead1, ahead2, ahead3, m.1, m.2]
  constructor
  ·by_cases h0 : k = 0
   ·rw [if_pos h0]; exact cellAt_out _ _ _ _ _ (by omega)
   ·rw [if_neg h0]; exact cellAt_in _ _ _ _ _ (k - 1) i (by omega) rfl (by omega) hi
  ·by_cases h0 : k + 1 < w
   ·rw [if_pos h0]; exact cellAt_in _ _ _ _ _ (k + 1) i (by omega) rfl (by omega) hi
   ·rw [if_neg h0]; exact cellAt_out _ _ _ _ _ (by omega)
theorem posL_nonneg (w h : Nat) (d : Int) (i k : Nat) : 0 ≤ posL w h d i k := by
 unfold posL numL; split <;> omega
theorem wallW_neg (cells : List Int) (c : Int) (hc : 0 ≤ c) : wallW cells c < 0 ↔ rd cells c = 35 := by
 unfold wallW; split <;> omega
def headI (w h : Int) (cells : List Int) (d : Int) (c : Int) : Bool := rd cells c != 35 && decide (aheadD w h cells c d < 0)
def runI (w h : Int) (cells : List Int) (d : Int) (c : Int) : List Int := c :: chainD w h cells ((d + 2) % 4) 8 (aheadD w h cells c ((d + 2) % 4))
theorem chain_line (w h : Nat) (cells : List Int) (d : Int) (hd : isD d) (i : Nat) (hi : i < manyL w h d) : ∀ (m j n : Nat), j + 1 + m = longL w h d → m ≤ n →
  chainD w h cells ((dI d + 2) % 4) n (aheadD w h cells (posL w h d i j) ((dI d + 2) % 4)) = ((List.range' (j + 1) m).map (posL w h d i)).takeWhile (nwB cells) := by
 intro m
 induction m with
 | zero =>
  intro j n hj hn
  rw [(link_ahead w h cells d hd i j hi (by omega)).2, if_neg (by omega)]
  cases n <;> simp [chainD]
 | succ m ih =>
  intro j n hj hn
  rw [(link_ahead w h cells d hd i j hi (by omega)).2, if_pos (by omega), List.range'_succ, List.map_cons, List.takeWhile_cons]
  obtain ⟨n, rfl⟩ : ∃ q, n = q + 1 := ⟨n - 1, by omega⟩
  rw [chainD]
  have hp := posL_nonneg w h d i (j + 1)
  have hw := wallW_neg cells _ hp
  by_cases h35 : rd cells (posL w h d i (j + 1)) = 35
  ·rw [if_neg (by have := hw.2 h35; omega)]
   simp [nwB, h35]
  ·have e : wallW cells (posL w h d i (j + 1)) = posL w h d i (j + 1) := by unfold wallW; rw [if_neg h35]
   rw [e, if_pos (by omega), ih (j + 1) n (by omega) (by omega)]
   simp [nwB, h35]
theorem heads_line (w h : Nat) (hw : w ≤ 8) (hh : h ≤ 8) (cells : List Int) (d : Int) (hd : isD d) (i : Nat) (hi : i < manyL w h d) : ∀ (m j : Nat) (b : Bool), j + m = longL w h d → (b = true ↔ 0 < j ∧ rd cells (posL w h d i (j - 1)) ≠ 35) →
  headsR cells b ((List.range' j m).map (posL w h d i)) = (((List.range' j m).map (posL w h d i)).filter (headI w h cells (dI d))).map (runI w h cells (dI d)) := by
 have hlong : longL w h d ≤ 8 := by unfold longL; split <;> omega
 intro m
 induction m with
 | zero => intro j b hj hb; simp [headsR]
 | succ m ih =>
  intro j b hj hb
  have la := (link_ahead w h cells d hd i j hi (by omega)).1
  rw [List.range'_succ, List.map_cons, headsR, List.filter_cons]
  by_cases h35 : rd cells (posL w h d i j) = 35
  ·rw [if_pos h35, ih (j + 1) false (by omega) (by simp [h35]), if_neg (by simp [headI, h35])]
  ·rw [if_neg h35]
   have ht := ih (j + 1) true (by omega) (by simp [h35])
   by_cases hb1 : b = true
   ·have := hb.1 hb1
    rw [if_pos hb1, ht, if_neg ?_]
    have hp := posL_nonneg w h d i (j - 1)
    have hw2 := wallW_neg cells _ hp
    rw [if_neg (by omega)] at la
    simp only [headI, la, Bool.and_eq_true, decide_eq_true_eq, not_and]
    intro _ hlt
    exact this.2 (hw2.1 hlt)
   ·rw [if_neg hb1, ht, if_pos ?_, List.map_cons]
    ·congr 1
     rw [runI, chain_line w h cells d hd i hi m j 8 (by omega) (by omega)]
    ·have : aheadD w h cells (posL w h d i j) (dI d) < 0 := by
      rw [la]
      by_cases h0 : j = 0
      ·rw [if_pos h0]; omega
      ·rw [if_neg h0]
       refine (wallW_neg cells _ (posL_nonneg _ _ _ _ _)).2 ?_
       by_cases q : rd cells (posL w h d i (j - 1)) = 35
       ·exact q
       ·exact absurd (hb.2 ⟨by omega, q⟩) hb1
     simp [headI, h35, this]
theorem runsL_eq (w h : Nat) (hw : w ≤ 8) (hh : h ≤ 8) (cells : List Int) (d : Int) (hd : isD d) : runsL cells (linesL w h d) = ((linesL w h d).flatten.filter (headI w h cells (dI d))).map (runI w h cells (dI d)) := by
 have one : ∀ i, i < manyL w h d → splitR cells [] (lineL w h d i) = ((lineL w h d i).filter (headI w h cells (dI d))).map (runI w h cells (dI d)) := by
  intro i hi
  rw [splitR_eq, if_pos rfl, lineL_eq, List.range_eq_range']
  exact heads_line w h hw hh cells d hd i hi _ 0 false (by omega) (by simp)
 have all : ∀ L : List (List Int), (∀ l ∈ L, splitR cells [] l = (l.filter (headI w h cells (dI d))).map (runI w h cells (dI d))) → runsL cells L = (L.flatten.filter (headI w h cells (dI d))).map (runI w h cells (dI d)) := by
  intro L
  induction L with
  | nil => intro _; rfl
  | cons l L ih =>
   intro h1
   have := ih (fun l hl => h1 l (List.mem_cons_of_mem _ hl))
   rw [runsL] at this ⊢
   rw [List.flatMap_cons, List.flatten_cons, List.filter_append, List.map_append, this, h1 l List.mem_cons_self]
 refine all _ (fun l hl => ?_)
 obtain ⟨i, hi, rfl⟩ := List.mem_map.1 hl
 exact one i (List.mem_range.1 hi)
theorem posT_lt (w h : Nat) (d : Int) (k : Nat) (hk : k < longL w h d) : (if rvB d = true then longL w h d - 1 - k else k) < longL w h d := by
 split <;> omega
theorem posL_inj (w h : Nat) (d : Int) (i k i2 k2 : Nat) (hi : i < manyL w h d) (hk : k < longL w h d) (hi2 : i2 < manyL w h d) (hk2 : k2 < longL w h d) (e : posL w h d i k = posL w h d i2 k2) : i = i2 ∧ k = k2 := by
 have t1 := posT_lt w h d k hk
 have t2 := posT_lt w h d k2 hk2
 have key : i = i2 ∧ (if rvB d = true then longL w h d - 1 - k else k) = (if rvB d = true then longL w h d - 1 - k2 else k2) := by
  unfold posL numL at e
  generalize (if rvB d = true then longL w h d - 1 - k else k) = a at *
  generalize (if rvB d = true then longL w h d - 1 - k2 else k2) = b at *
  unfold manyL longL at *
  cases hu : udB d
  ·simp only [hu, Bool.false_eq_true, if_false] at *
   have m1 := num_mod w a i t1
   have m2 := num_mod w b i2 t2
   rw [e] at m1
   omega
  ·simp only [hu, if_true] at *
   have m1 := num_mod w i a hi
   have m2 := num_mod w i2 b hi2
   rw [e] at m1
   omega
 refine ⟨key.1, ?_⟩
 have := key.2
 split at this <;> omega
theorem posL_lt (w h : Nat) (d : Int) (i k : Nat) (hi : i < manyL w h d) (hk : k < longL w h d) : 0 ≤ posL w h d i k ∧ posL w h d i k < ((w * h : Nat) : Int) := by
 refine ⟨posL_nonneg _ _ _ _ _, ?_⟩
 have t1 := posT_lt w h d k hk
 unfold posL numL
 generalize (if rvB d = true then longL w h d - 1 - k else k) = a at *
 have bd : ∀ x y a b : Nat, x < a → y < b → x * b + y < a * b := by
  intro x y a b hx hy
  have h1 : (x + 1) * b ≤ a * b := Nat.mul_le_mul_right b (by omega)
  rw [Nat.succ_mul] at h1
  omega
 unfold manyL longL at *
 cases hu : udB d
 ·simp only [hu, Bool.false_eq_true, if_false] at *
  have := bd i a h w hi t1
  rw [Nat.mul_comm h w] at this
  omega
 ·simp only [hu, if_true] at *
  have := bd a i h w t1 hi
  rw [Nat.mul_comm h w] at this
  omega
theorem lines_mem (w h : Nat) (d : Int) (c : Int) : c ∈ (linesL w h d).flatten ↔ 0 ≤ c ∧ c < ((w * h : Nat) : Int) := by
 constructor
 ·intro hc
  obtain ⟨l, hl, hc⟩ := List.mem_flatten.1 hc
  obtain ⟨i, hi, rfl⟩ := List.mem_map.1 hl
  rw [lineL_eq] at hc
  obtain ⟨k, hk, rfl⟩ := List.mem_map.1 hc
  exact posL_lt w h d i k (List.mem_range.1 hi) (List.mem_range.1 hk)
 ·rintro ⟨h0, h1⟩
  obtain ⟨n, rfl⟩ : ∃ n : Nat, c = n := ⟨c.toNat, by omega⟩
  have h1 : n < w * h := by omega
  have hw : 0 < w := Nat.pos_of_ne_zero (by rintro rfl; simp at h1)
  have a1 : n % w < w := Nat.mod_lt _ hw
  have a2 : n / w < h := Nat.div_lt_of_lt_mul h1
  have e : n / w * w + n % w = n := by rw [Nat.mul_comm]; exact Nat.div_add_mod n w
  have main : ∀ i t : Nat, i < manyL w h d → t < longL w h d → numL w d i t = (n : Int) → (n : Int) ∈ (linesL w h d).flatten := by
   intro i t hi ht he
   refine List.mem_flatten.2 ⟨lineL w h d i, List.mem_map.2 ⟨i, List.mem_range.2 hi, rfl⟩, ?_⟩
   unfold lineL finL
   have : (n : Int) ∈ (List.range (longL w h d)).map (numL w d i) := List.mem_map.2 ⟨t, List.mem_range.2 ht, he⟩
   split
   ·exact List.mem_reverse.2 this
   ·exact this
  cases hu : udB d
  ·refine main (n / w) (n % w) (by unfold manyL; rw [hu]; exact a2) (by unfold longL; rw [hu]; exact a1) ?_
   unfold numL; rw [hu]; simp only [Bool.false_eq_true, if_false]; rw [e]
  ·refine main (n % w) (n / w) (by unfold manyL; rw [hu]; exact a1) (by unfold longL; rw [hu]; exact a2) ?_
   unfold numL; rw [hu]; simp only [if_true]; rw [e]
theorem lines_nodup (w h : Nat) (d : Int) : (linesL w h d).flatten.Nodup := by
 unfold List.Nodup
 rw [List.pairwise_flatten]
 constructor
 ·intro l hl
  obtain ⟨i, hi, rfl⟩ := List.mem_map.1 hl
  rw [lineL_eq, List.pairwise_map]
  refine List.Pairwise.imp_of_mem ?_ (List.pairwise_lt_range (n := longL w h d))
  intro a b ha hb hab e
  have := posL_inj w h d i a i b (List.mem_range.1 hi) (List.mem_range.1 ha) (List.mem_range.1 hi) (List.mem_range.1 hb) e
  omega
 ·rw [linesL, List.pairwise_map]
  refine List.Pairwise.imp_of_mem ?_ (List.pairwise_lt_range (n := manyL w h d))
  intro a b ha hb hab x hx y hy e
  rw [lineL_eq] at hx hy
  obtain ⟨k, hk, rfl⟩ := List.mem_map.1 hx
  obtain ⟨k2, hk2, rfl⟩ := List.mem_map.1 hy
  have := posL_inj w h d a k b k2 (List.mem_range.1 ha) (List.mem_range.1 hk) (List.mem_range.1 hb) (List.mem_range.1 hk2) e
  omega
theorem splitR_flat (cells : List Int) : ∀ (l acc : List Int), (splitR cells acc l).flatten = acc ++ l.filter (nwB cells)
 | [], acc => by
  by_cases h : acc = [] <;> simp [splitR, h]
 | k :: ks, acc => by
  by_cases h : acc = [] <;> by_cases hk : rd cells k = 35 <;> simp [splitR, h, hk, splitR_flat cells ks, nwB, List.filter_cons]
theorem runsL_flat (cells : List Int) (L : List (List Int)) : (runsL cells L).flatten = L.flatten.filter (nwB cells) := by
 induction L with
 | nil => rfl
 | cons l L ih =>
  have e : runsL cells (l :: L) = splitR cells [] l ++ runsL cells L := by simp [runsL]
  rw [e, List.flatten_append, ih, splitR_flat, List.flatten_cons, List.filter_append, List.nil_append]
theorem splitR_ne (cells : List Int) : ∀ (l acc : List Int), [] ∉ splitR cells acc l
 | [], acc => by
  by_cases h : acc = []
  ·simp [splitR, h]
  ·simp only [splitR, if_neg h, List.mem_singleton]; exact fun q => h q.symm
 | k :: ks, acc => by
  rw [splitR]
  split
  ·split
   ·exact splitR_ne cells ks []
   ·rename_i h
    simp only [List.mem_cons, not_or]
    exact ⟨fun q => h q.symm, splitR_ne cells ks []⟩
  ·exact splitR_ne cells ks _
theorem minOf_mem (l : List Int) (h : l ≠ []) : Lib.minOf l ∈ l := by
 have main : ∀ (l : List Int) (a : Int), l.foldl min a = a ∨ l.foldl min a ∈ l := by
  intro l
  induction l with
  | nil => intro a; exact Or.inl rfl
  | cons b l ih =>
   intro a
   rw [List.foldl_cons]
   rcases ih (min a b) with q | q
   ·rw [q]
    rcases Int.le_total a b with r | r
    ·left; omega
    ·right; rw [show min a b = b by omega]; exact List.mem_cons_self
   ·right; exact List.mem_cons_of_mem _ q
 unfold Lib.minOf
 cases l with
 | nil => exact absurd rfl h
 | cons b l =>
  rcases main (b :: l) b with q | q
  ·show List.foldl min b (b :: l) ∈ b :: l
   rw [q]; exact List.mem_cons_self
  ·exact q
def strI (w h : Nat) (cells : List Int) (d : Int) : List (List Int) := (runsL cells (linesL w h d)).mergeSort leastLE
theorem runs_len (w h : Nat) (cells : List Int) (d : Int) (hw : w ≤ 8) (hh : h ≤ 8) : (runsL cells (linesL w h d)).length ≤ 10000 := by
 have hm : manyL w h d ≤ 8 := by unfold manyL; split <;> omega
 have hl : longL w h d ≤ 8 := by unfold longL; split <;> omega
 have main : ∀ L : List (List Int), (∀ l ∈ L, l.length ≤ 8) → (runsL cells L).length ≤ L.length * 9 := by
  intro L
  induction L with
  | nil => intro _; simp [runsL]
  | cons l L ih =>
   intro hL
   have e : runsL cells (l :: L) = splitR cells [] l ++ runsL cells L := by simp [runsL]
   have h1 := splitR_length cells l []
   have h2 := ih (fun l hl => hL l (List.mem_cons_of_mem _ hl))
   have h3 := hL l List.mem_cons_self
   rw [e, List.length_append, List.length_cons]
   omega
 have := main (linesL w h d) (by
  intro l hl'
  obtain ⟨i, hi, rfl⟩ := List.mem_map.1 hl'
  rw [lineL_eq, List.length_map, List.length_range]
  exact hl)
 have e : (linesL w h d).length = manyL w h d := by simp [linesL]
 omega
theorem runs_ok (w h : Nat) (cells : List Int) (d : Int) (hw : w ≤ 8) (hh : h ≤ 8) : leastOk (runsL cells (linesL w h d)) = true := by
 have hlen := runs_len w h cells d hw hh
 have hne : ∀ a ∈ runsL cells (linesL w h d), a ≠ [] := by
  rintro a ha rfl
  obtain ⟨l, _, hl⟩ := List.mem_flatMap.1 ha
  exact splitR_ne cells _ _ hl
 have hfl := runsL_flat cells (linesL w h d)
 have hmem : ∀ a ∈ runsL cells (linesL w h d), 0 ≤ Lib.minOf a ∧ Lib.minOf a < ((w * h : Nat) : Int) := by
  intro a ha
  have : Lib.minOf a ∈ (runsL cells (linesL w h d)).flatten := List.mem_flatten.2 ⟨a, ha, minOf_mem a (hne a ha)⟩
  rw [hfl] at this
  exact (lines_mem w h d _).1 (List.mem_filter.1 this).1
 have hwh : w * h ≤ 64 := Nat.mul_le_mul hw hh
 unfold leastOk
 simp only [Bool.and_eq_true, decide_eq_true_eq, List.all_eq_true]
 refine ⟨⟨by omega, fun a ha => ⟨hne a ha, (hmem a ha).1, by have := (hmem a ha).2; omega⟩⟩, ?_⟩
 have nd : ((runsL cells (linesL w h d)).flatten).Nodup := by
  rw [hfl]; exact List.Nodup.sublist List.filter_sublist (lines_nodup w h d)
 unfold List.Nodup at nd
 rw [List.pairwise_flatten] at nd
 rw [List.pairwise_map]
 refine List.Pairwise.imp_of_mem ?_ nd.2
 intro a b ha hb hab
 exact hab _ (minOf_mem a (hne a ha)) _ (minOf_mem b (hne b hb))
theorem stretches_ev (w h : Nat) (cells : List Int) (d : Int) (hd : isD d) (hw : w ≤ 8) (hh : h ≤ 8) (hl : cells.length = w * h) : Ev (fun k => Zas.f k w h cells d) (strI w h cells d) := by
 have hm : manyL w h d ≤ 8 := by unfold manyL; split <;> omega
 have hl8 : longL w h d ≤ 8 := by unfold longL; split <;> omega
 have e : (linesL w h d).length = manyL w h d := by simp [linesL]
 refine Ev.bind (g := fun k t => Zas.l0 k [] t (t.length : Int) 0 w h cells) (lines_ev w h (by omega) (by omega) cells d hd) ?_
 refine stretches_loop w h cells (linesL w h d) (by omega) (fun l hl' => ?_) (fun l hl' k hk => ?_) _ ?_
 ·obtain ⟨i, hi, rfl⟩ := List.mem_map.1 hl'
  rw [lineL_eq, List.length_map, List.length_range]; omega
 ·have := (lines_mem w h d k).1 (List.mem_flatten.2 ⟨l, hl', hk⟩)
  omega
 ·unfold Za3.f
  rw [if_pos (runs_ok w h cells d hw hh)]; rfl
theorem strI_perm (w h : Nat) (cells : List Int) (d : Int) : (strI w h cells d).Perm (runsL cells (linesL w h d)) := List.mergeSort_perm _ _
theorem strI_nodup (w h : Nat) (cells : List Int) (d : Int) : (strI w h cells d).flatten.Nodup := by
 rw [(strI_perm w h cells d).flatten.nodup_iff, runsL_flat]
 exact List.Nodup.sublist List.filter_sublist (lines_nodup w h d)
theorem strI_mem (w h : Nat) (cells : List Int) (d c : Int) : c ∈ (strI w h cells d).flatten ↔ (0 ≤ c ∧ c < ((w * h : Nat) : Int)) ∧ rd cells c ≠ 35 := by
 rw [(strI_perm w h cells d).flatten.mem_iff, runsL_flat, List.mem_filter, lines_mem]
 simp [nwB]
theorem strI_len (w h : Nat) (cells : List Int) (d : Int) (hw : w ≤ 8) (hh : h ≤ 8) : (strI w h cells d).length ≤ 10000 := by
 rw [(strI_perm w h cells d).length_eq]; exact runs_len w h cells d hw hh
theorem strI_spec (w h : Nat) (cells : List Int) (d : Int) (hd : isD d) (hw : w ≤ 8) (hh : h ≤ 8) (hl : cells.length = w * h) (x : List Int) : x ∈ strI w h cells d ↔ x ∈ stretchesD w h cells (dI d) := by
 rw [(strI_perm w h cells d).mem_iff, runsL_eq w h hw hh cells d hd, mem_stretchesD]
 constructor
 ·intro hx
  obtain ⟨c, hc, rfl⟩ := List.mem_map.1 hx
  obtain ⟨hc, hh⟩ := List.mem_filter.1 hc
  have hc := (lines_mem w h d c).1 hc
  obtain ⟨n, rfl⟩ : ∃ n : Nat, c = n := ⟨c.toNat, by omega⟩
  refine ⟨n, by omega, ?_, rfl⟩
  simp only [headI, Bool.and_eq_true, bne_iff_ne, ne_eq, decide_eq_true_eq] at hh
  exact hh
 ·rintro ⟨i, hi, hh, rfl⟩
  refine List.mem_map.2 ⟨(i : Int), List.mem_filter.2 ⟨(lines_mem w h d _).2 ⟨by omega, by omega⟩, ?_⟩, rfl⟩
  simp only [headI, Bool.and_eq_true, bne_iff_ne, ne_eq, decide_eq_true_eq]
  exact hh
def emptC (c : Int) : Int := if ballB c = true then 46 else c
def emptL (cells : List Int) : List Int := cells.map emptC
theorem emptied_ev (w h : Int) (cells : List Int) (h0 : cells ≠ []) (hl : cells.length < 1000000) : Ev (fun k => Za1.f k w h cells) (w, h, emptL cells) := by
 have main : ∀ (m j : Nat) (x : List Int), j + m = cells.length → x.length = cells.length → x.drop j = cells.drop j → x.take j = (emptL cells).take j →
   Ev (fun k => Za1.l0 k (cells.length : Int) (j : Int) w h x) (w, h, emptL cells) := by
  intro m
  induction m with
  | zero =>
   intro j x hj hx hd ht
   refine Ev.shift (g := fun _ => some (w, h, x)) (Ev.const ?_) (fun k => ?_)
   ·have e1 : x.take j = x := List.take_of_length_le (by omega)
    have e2 : (emptL cells).take j = emptL cells := List.take_of_length_le (by simp [emptL]; omega)
    rw [e1, e2] at ht
    rw [ht]
   ·simp only [Za1.l0]
    rw [if_neg (by omega)]
  | succ m ih =>
   intro j x hj hx hd ht
   have hlt : j < cells.length := by omega
   have hltx : j < x.length := by omega
   have hxj : x[j] = cells[j] := by
    have := hd
    rw [drop_cons x j hltx, drop_cons cells j hlt] at this
    exact (List.cons.inj this).1
   have hdj : x.drop (j + 1) = cells.drop (j + 1) := by
    have := hd
    rw [drop_cons x j hltx, drop_cons cells j hlt] at this
    exact (List.cons.inj this).2
   have hle : j < (emptL cells).length := by simp [emptL]; omega
   have hej : (emptL cells)[j] = emptC cells[j] := by simp [emptL]
   refine Ev.shift (g := fun k => Za1.l0 k (cells.length : Int) ((j + 1 : Nat) : Int) w h (if ballB cells[j] = true then x.set j 46 else x)) ?_ (fun k => ?_)
   ·refine ih (j + 1) _ (by omega) (by split <;> simp [hx]) ?_ ?_
    ·split
     ·rw [List.drop_set_of_lt (by omega)]; exact hdj
     ·exact hdj
    ·rw [← List.take_append_getElem hle, hej, ← ht]
     split
     ·rename_i hb
      rw [← List.take_append_getElem (by simpa using hltx), List.getElem_set_self, List.take_set_of_le (by omega)]
      simp [emptC, hb]
     ·rename_i hb
      rw [← List.take_append_getElem hltx, hxj]
      simp [emptC, hb]
   ·simp only [Za1.l0]
    rw [if_pos (by omega), if_pos (by omega), if_pos (by omega), rd_n x j hltx, hxj, isBall_f, wrap_n j (by omega), Option.bind_some, Int.toNat_natCast]
    cases ballB cells[j] <;> rfl
 refine Ev.congr (main cells.length 0 cells (by omega) rfl rfl rfl) (fun k => ?_)
 unfold Za1.f impl_tray_own.f slices_Clone_byte_byte.f
 rw [if_pos ⟨h0, by omega⟩]
 rfl
def cntB (cells ks : List Int) : Nat := (ks.filter fun k => ballB (rd cells k)).length
theorem mvGo_fst (cells own : List Int) : ∀ (ks : List Int) (n : Int), (mvGo cells own n ks).map (·.1) = ks.filter fun k => ballB (rd cells k)
 | [], n => rfl
 | k :: ks, n => by
  rw [mvGo, List.filter_cons]
  split
  ·rw [List.map_cons, mvGo_fst]
  ·rw [mvGo_fst]
theorem mvGo_snd (cells own : List Int) : ∀ (ks : List Int) (n : Nat), n + cntB cells ks ≤ own.length → (mvGo cells own n ks).map (·.2) = (own.drop n).take (cntB cells ks)
 | [], n, _ => by simp [mvGo, cntB]
 | k :: ks, n, hn => by
  have e : cntB cells (k :: ks) = if ballB (rd cells k) = true then cntB cells ks + 1 else cntB cells ks := by
   unfold cntB; rw [List.filter_cons]; split <;> simp
  rw [mvGo, e]
  rw [e] at hn
  split
  ·rename_i hb
   rw [if_pos hb] at hn
   have := mvGo_snd cells own ks (n + 1) (by omega)
   rw [List.map_cons, drop_cons own n (by omega), List.take_succ_cons, rd_n own n (by omega), show ((n : Int) + 1) = ((n + 1 : Nat) : Int) by omega, this]
  ·rename_i hb
   rw [if_neg hb] at hn
   exact mvGo_snd cells own ks n hn
theorem cntB_le (cells ks : List Int) : cntB cells ks ≤ ks.length := List.length_filter_le _ _
theorem mvAll_fst (cells : List Int) (S : List (List Int)) : (mvAll cells S).map (·.1) = S.flatten.filter fun k => ballB (rd cells k) := by
 unfold mvAll
 induction S with
 | nil => rfl
 | cons s S ih => rw [List.flatMap_cons, List.map_append, ih, mvGo_fst, List.flatten_cons, List.filter_append]
theorem mvAll_snd (cells : List Int) (S : List (List Int)) : ((mvAll cells S).map (·.2)).Sublist S.flatten := by
 unfold mvAll
 induction S with
 | nil => exact List.Sublist.refl _
 | cons s S ih =>
  rw [List.flatMap_cons, List.map_append, List.flatten_cons]
  refine List.Sublist.append ?_ ih
  have := mvGo_snd cells s s 0 (by have := cntB_le cells s; omega)
  rw [show ((0 : Nat) : Int) = 0 from rfl] at this
  rw [this]
  exact (List.take_sublist _ _).trans (List.drop_sublist _ _)
def tiltI (w h : Nat) (cells : List Int) (d : Int) : List Int := carriedL cells (emptL cells) (mvAll cells (strI w h cells d))
theorem strI_flat_len (w h : Nat) (cells : List Int) (d : Int) (hw : w ≤ 8) (hh : h ≤ 8) : (strI w h cells d).flatten.length ≤ 64 := by
 have hm : manyL w h d ≤ 8 := by unfold manyL; split <;> omega
 have hl : longL w h d ≤ 8 := by unfold longL; split <;> omega
 rw [(strI_perm w h cells d).flatten.length_eq, runsL_flat]
 refine Nat.le_trans (List.length_filter_le _ _) ?_
 have : ∀ L : List (List Int), (∀ l ∈ L, l.length ≤ 8) → L.flatten.length ≤ L.length * 8 := by
  intro L
  induction L with
  | nil => intro _; simp
  | cons l L ih =>
   intro hL
   have h2 := ih (fun l hl => hL l (List.mem_cons_of_mem _ hl))
   have h3 := hL l List.mem_cons_self
   rw [List.flatten_cons, List.length_append, List.length_cons]
   omega
 have := this (linesL w h d) (by
  intro l hl'
  obtain ⟨i, hi, rfl⟩ := List.mem_map.1 hl'
  rw [lineL_eq, List.length_map, List.length_range]
  exact hl)
 have e : (linesL w h d).length = manyL w h d := by simp [linesL]
 omega
theorem mv_mem (w h : Nat) (cells : List Int) (d : Int) (p : Int × Int) (hp : p ∈ mvAll cells (strI w h cells d)) :
  (0 ≤ p.1 ∧ p.1 < ((w * h : Nat) : Int)) ∧ ballB (rd cells p.1) = true ∧ (0 ≤ p.2 ∧ p.2 < ((w * h : Nat) : Int)) := by
 have h1 : p.1 ∈ (mvAll cells (strI w h cells d)).map (·.1) := List.mem_map.2 ⟨p, hp, rfl⟩
 have h2 : p.2 ∈ (mvAll cells (strI w h cells d)).map (·.2) := List.mem_map.2 ⟨p, hp, rfl⟩
 rw [mvAll_fst, List.mem_filter] at h1
 have h2 := (mvAll_snd cells _).subset h2
 exact ⟨((strI_mem w h cells d _).1 h1.1).1, h1.2, ((strI_mem w h cells d _).1 h2).1⟩
theorem tilted_ev (w h : Nat) (cells : List Int) (d : Int) (hd : isD d) (hw0 : 0 < w) (hh0 : 0 < h) (hw : w ≤ 8) (hh : h ≤ 8) (hl : cells.length = w * h) : Ev (fun k => impl_tray_tilted.f k w h cells d) ((w : Int), (h : Int), tiltI w h cells d) := by
 have hwh : w * h ≤ 64 := Nat.mul_le_mul hw hh
 have hwh0 : 0 < w * h := Nat.mul_pos hw0 hh0
 have hne : cells ≠ [] := by rintro rfl; simp at hl; omega
 have fl := strI_flat_len w h cells d hw hh
 have hel : (emptL cells).length = w * h := by simp [emptL, hl]
 have e1 : slideF cells (strI w h cells d) = some (mvAll cells (strI w h cells d)) := by
  unfold slideF
  rw [if_pos ?_]
  refine ⟨?_, by omega, by have := strI_len w h cells d hw hh; omega, ?_, ?_⟩
  ·unfold inCells
   simp only [List.all_eq_true, Bool.and_eq_true, decide_eq_true_eq]
   intro own ho k hk
   have := (strI_mem w h cells d k).1 (List.mem_flatten.2 ⟨own, ho, hk⟩)
   omega
  ·have := (mvAll_snd cells (strI w h cells d)).length_le
   rw [List.length_map] at this
   omega
  ·intro own ho
   have := (List.sublist_flatten_of_mem ho).length_le
   omega
 have e2 : mvOk cells.length (emptL cells).length (mvAll cells (strI w h cells d)) = true := by
  rw [hel, hl]
  unfold mvOk
  simp only [Bool.and_eq_true, List.all_eq_true, decide_eq_true_eq]
  have n1 : ((mvAll cells (strI w h cells d)).map (·.1)).Nodup := by
   rw [mvAll_fst]; exact List.Nodup.sublist List.filter_sublist (strI_nodup w h cells d)
  have n2 : ((mvAll cells (strI w h cells d)).map (·.2)).Nodup := List.Nodup.sublist (mvAll_snd cells _) (strI_nodup w h cells d)
  unfold List.Nodup at n1 n2
  rw [List.pairwise_map] at n1 n2
  refine ⟨⟨⟨⟨⟨?_, n1⟩, n2⟩, hwh0⟩, by omega⟩, by omega⟩
  intro p hp
  have := mv_mem w h cells d p hp
  exact ⟨⟨⟨this.1.1, this.1.2⟩, this.2.2.1⟩, this.2.2.2⟩
 obtain ⟨k1, h1⟩ := stretches_ev w h cells d hd hw hh hl
 obtain ⟨k2, h2⟩ := emptied_ev w h cells hne (by omega)
 refine ⟨max k1 k2, fun k hk => ?_⟩
 show impl_tray_tilted.f k w h cells d = _
 unfold impl_tray_tilted.f
 rw [show Zas.f k w h cells d = _ from h1 k (by omega), show Za1.f k w h cells = _ from h2 k (by omega), Option.bind_some, e1, Option.bind_some, Option.bind_some, if_pos e2]
 rfl
theorem mv_still (cells own : List Int) : ∀ (ks : List Int) (n j : Nat), own.drop j = ks → n ≤ j → (∀ x ∈ mvD cells n j ks, x = 0) → ∀ p ∈ mvGo cells own n ks, p.1 = p.2
 | [], n, j, _, _, _, p, hp => by simp [mvGo] at hp
 | k :: ks, n, j, hd, hn, hz, p, hp => by
  have hlt : j < own.length := by
   rcases Nat.lt_or_ge j own.length with q | q
   ·exact q
   ·rw [List.drop_eq_nil_of_le q] at hd; cases hd
  rw [drop_cons own j hlt] at hd
  obtain ⟨rfl, hd2⟩ := List.cons.inj hd
  rw [mvD] at hz
  rw [mvGo] at hp
  split at hp
  ·rename_i hb
   rw [if_pos hb] at hz
   have h0 := hz _ List.mem_cons_self
   obtain rfl : n = j := by omega
   rcases List.mem_cons.1 hp with q | q
   ·rw [q]; exact (rd_n own n hlt).symm
   ·exact mv_still cells own ks (n + 1) (n + 1) hd2 (by omega) (fun x hx => hz x (List.mem_cons_of_mem _ hx)) p q
  ·rename_i hb
   rw [if_neg hb] at hz
   exact mv_still cells own ks n (j + 1) hd2 (by omega) hz p hp
theorem mv_moves (cells own : List Int) : ∀ (ks : List Int) (n j : Nat), own.drop j = ks → n ≤ j → (n < j → ballB (rd cells (rd own n)) = false) → (∃ x ∈ mvD cells n j ks, x ≠ 0) → ∃ p ∈ mvGo cells own n ks, ballB (rd cells p.2) = false
 | [], n, j, _, _, _, hz => by
  obtain ⟨x, hx, _⟩ := hz
  simp [mvD] at hx
 | k :: ks, n, j, hd, hn, hf, hz => by
  have hlt : j < own.length := by
   rcases Nat.lt_or_ge j own.length with q | q
   ·exact q
   ·rw [List.drop_eq_nil_of_le q] at hd; cases hd
  rw [drop_cons own j hlt] at hd
  obtain ⟨rfl, hd2⟩ := List.cons.inj hd
  rw [mvD] at hz
  rw [mvGo]
  by_cases hb : ballB (rd cells own[j]) = true
  ·rw [if_pos hb] at hz ⊢
   by_cases e : n = j
   ·subst e
    obtain ⟨x, hx, h0⟩ := hz
    rcases List.mem_cons.1 hx with q | q
    ·omega
    ·obtain ⟨p, hp, hq⟩ := mv_moves cells own ks (n + 1) (n + 1) hd2 (by omega) (by omega) ⟨x, q, h0⟩
     exact ⟨p, List.mem_cons_of_mem _ hp, hq⟩
   ·exact ⟨_, List.mem_cons_self, hf (by omega)⟩
  ·rw [if_neg hb] at hz ⊢
   refine mv_moves cells own ks n (j + 1) hd2 (by omega) (fun _ => ?_) hz
   by_cases e : n = j
   ·subst e
    rw [rd_n own n hlt]
    cases q : ballB (rd cells own[n])
    ·rfl
    ·exact absurd q hb
   ·exact hf (by omega)
theorem carried_eq (cells x0 : List Int) (mv : List (Int × Int)) (hx : x0.length = cells.length) : carriedL cells x0 mv = cells ↔ ∀ j (hj : j < cells.length), cellC cells x0 mv j = cells[j] := by
 unfold carriedL
 constructor
 ·intro h j hj
  have := congrArg (fun l => l[j]?) h
  simpa [List.getElem?_map, hx, hj, List.getElem?_eq_getElem hj, List.getElem?_range] using this
 ·intro h
  apply List.ext_getElem
  ·simp [hx]
  ·intro n h1 h2
   simp [h n h2]
theorem wall_noball {c : Int} (h : ballB c = true) : c ≠ 35 := by
 rintro rfl; exact absurd h (by decide)
theorem tilt_still (w h : Nat) (cells : List Int) (d : Int) (hl : cells.length = w * h) : tiltI w h cells d = cells ↔ ∀ own ∈ strI w h cells d, ∀ x ∈ mvD cells 0 0 own, x = 0 := by
 unfold tiltI
 rw [carried_eq _ _ _ (by simp [emptL])]
 constructor
 ·intro hc own ho
  apply Classical.byContradiction
  intro hz
  have hz : ∃ x ∈ mvD cells 0 0 own, x ≠ 0 := by
   apply Classical.byContradiction
   intro q
   exact hz fun x hx => Classical.byContradiction fun r => q ⟨x, hx, r⟩
  obtain ⟨p, hp, hq⟩ := mv_moves cells own own 0 0 rfl (by omega) (by omega) hz
  have hp : p ∈ mvAll cells (strI w h cells d) := List.mem_flatMap.2 ⟨own, ho, hp⟩
  have hm := mv_mem w h cells d p hp
  obtain ⟨j, hj⟩ : ∃ j : Nat, p.2 = j := ⟨p.2.toNat, by omega⟩
  have hjl : j < cells.length := by omega
  have hcj := hc j hjl
  unfold cellC at hcj
  cases hf : (mvAll cells (strI w h cells d)).find? (fun p => p.2 == (j : Int)) with
  | none =>
   have := List.find?_eq_none.1 hf p hp
   simp [hj] at this
  | some q =>
   rw [hf] at hcj
   have hqm := mv_mem w h cells d q (List.mem_of_find?_eq_some hf)
   rw [hj, rd_n cells j hjl, ← hcj, hqm.2.1] at hq
   cases hq
 ·intro hz j hj
  unfold cellC
  have hst : ∀ p ∈ mvAll cells (strI w h cells d), p.1 = p.2 := by
   intro p hp
   obtain ⟨own, ho, hp⟩ := List.mem_flatMap.1 hp
   exact mv_still cells own own 0 0 rfl (by omega) (hz own ho) p hp
  cases hf : (mvAll cells (strI w h cells d)).find? (fun p => p.2 == (j : Int)) with
  | some q =>
   have h1 := hst q (List.mem_of_find?_eq_some hf)
   have h2 : q.2 = (j : Int) := by simpa using List.find?_some hf
   show rd cells q.1 = _
   rw [h1, h2, rd_n cells j hj]
  | none =>
   show rd (emptL cells) (j : Int) = _
   rw [rd_n (emptL cells) j (by simpa [emptL] using hj)]
   have e : (emptL cells)[j]'(by simpa [emptL] using hj) = emptC cells[j] := by simp [emptL]
   rw [e]
   unfold emptC
   by_cases hb : ballB cells[j] = true
   ·exfalso
    have hr := rd_n cells j hj
    have : (j : Int) ∈ (mvAll cells (strI w h cells d)).map (·.1) := by
     rw [mvAll_fst, List.mem_filter]
     refine ⟨(strI_mem w h cells d _).2 ⟨⟨by omega, by omega⟩, ?_⟩, by rw [hr]; exact hb⟩
     rw [hr]; exact wall_noball hb
    obtain ⟨p, hp, he⟩ := List.mem_map.1 this
    have := List.find?_eq_none.1 hf p hp
    have h1 := hst p hp
    simp at this
    omega
   ·rw [if_neg hb]
theorem allEq_beq (l : List Int) : ∀ m : List Int, Lib.allEq (fun x y => x == y) l m = decide (l = m) := by
 induction l with
 | nil => intro m; cases m <;> simp [Lib.allEq]
 | cons a l ih =>
  intro m
  cases m with
  | nil => simp [Lib.allEq]
  | cons b m =>
   simp only [Lib.allEq, ih m, List.cons.injEq]
   by_cases e : a = b <;> simp [e]
def stillB (w h : Nat) (cells : List Int) (d : Int) : Bool := ((stretchesD w h cells (dI d)).flatMap (mvD cells 0 0)).all fun x => x == 0
theorem isStill_ev (w h : Nat) (cells : List Int) (d : Int) (hd : isD d) (hw0 : 0 < w) (hh0 : 0 < h) (hw : w ≤ 8) (hh : h ≤ 8) (hl : cells.length = w * h) : Ev (fun k => Zbd.f k w h cells d) (stillB w h cells d) := by
 have hwh0 : 0 < w * h := Nat.mul_pos hw0 hh0
 have hne : cells ≠ [] := by rintro rfl; simp at hl; omega
 have htl : (tiltI w h cells d).length = cells.length := by simp [tiltI, carriedL, emptL]
 have hne2 : tiltI w h cells d ≠ [] := by intro q; rw [q] at htl; simp at htl; omega
 have e : decide (tiltI w h cells d = cells) = stillB w h cells d := by
  rw [Bool.eq_iff_iff, decide_eq_true_eq, tilt_still w h cells d hl]
  unfold stillB
  rw [List.all_eq_true]
  simp only [List.mem_flatMap, beq_iff_eq]
  constructor
  ·rintro hz x ⟨own, ho, hx⟩
   exact hz own ((strI_spec w h cells d hd hw hh hl own).2 ho) x hx
  ·intro hz own ho x hx
   exact hz x ⟨own, (strI_spec w h cells d hd hw hh hl own).1 ho, hx⟩
 obtain ⟨k1, h1⟩ := tilted_ev w h cells d hd hw0 hh0 hw hh hl
 refine ⟨k1, fun k hk => ?_⟩
 show Zbd.f k w h cells d = _
 unfold Zbd.f slices_Equal_byte_byte.f
 rw [show impl_tray_tilted.f k w h cells d = _ from h1 k hk, Option.bind_some]
 show (if tiltI w h cells d ≠ [] ∧ cells ≠ [] then some (Lib.allEq (fun x y => x == y) (tiltI w h cells d) cells) else none).bind _ = _
 rw [if_pos ⟨hne2, hne⟩, Option.bind_some, allEq_beq, e]
def rowB (w : Nat) (cells : List Int) (y : Nat) : List UInt8 := ((cells.drop (y * w)).take w).map fun n => UInt8.ofNat n.toNat
def textB (w h : Nat) (cells : List Int) : List UInt8 := Lib.join ((List.range h).map (rowB w cells)) [47]
def textS (w h : Nat) (cells : List Int) : ByteArray := ⟨(textB w h cells).toArray⟩
theorem rowB_length (w : Nat) (cells : List Int) (y : Nat) : (rowB w cells y).length ≤ w := by
 simp only [rowB, List.length_map, List.length_take]; omega
theorem join_snoc (x : List UInt8) (r : List (List UInt8)) (y sep : List UInt8) : Lib.join ((x :: r) ++ [y]) sep = Lib.join (x :: r) sep ++ sep ++ y := by
 rw [List.cons_append, Lib.join_cons, Lib.join_cons]
 simp [Lib.joinTail, List.append_assoc]
theorem textB_zero (w : Nat) (cells : List Int) : textB w 0 cells = [] := rfl
theorem textB_one (w : Nat) (cells : List Int) : textB w 1 cells = rowB w cells 0 := Lib.join_one _ _
theorem textB_succ (w y : Nat) (cells : List Int) (hy : 0 < y) : textB w (y + 1) cells = textB w y cells ++ [47] ++ rowB w cells y := by
 unfold textB
 rw [List.range_succ, List.map_append, List.map_singleton]
 obtain ⟨z, rfl⟩ : ∃ z, y = z + 1 := ⟨y - 1, by omega⟩
 rw [List.range_succ_eq_map, List.map_cons]
 exact join_snoc _ _ _ _
theorem textB_length (w : Nat) (cells : List Int) (hw : w ≤ 8) : ∀ y, (textB w y cells).length ≤ y * 9
 | 0 => by simp [textB_zero]
 | 1 => by have := rowB_length w cells 0; rw [textB_one]; omega
 | y + 2 => by
  have h1 := textB_length w cells hw (y + 1)
  have h2 := rowB_length w cells (y + 1)
  rw [textB_succ w (y + 1) cells (by omega), List.length_append, List.length_append, List.length_singleton]
  omega
theorem ba_append (a b : List UInt8) : ((⟨a.toArray⟩ : ByteArray) ++ (⟨b.toArray⟩ : ByteArray)) = ⟨(a ++ b).toArray⟩ := by
 apply ByteArray.ext
 simp
theorem ba_size (a : List UInt8) : (⟨a.toArray⟩ : ByteArray).size = a.length := by
 show a.toArray.size = _
 simp
theorem cut_row (w y : Nat) (cells : List Int) : strOfNums ((cells.take ((y + 1) * w)).drop (y * w)) = ⟨(rowB w cells y).toArray⟩ := by
 unfold strOfNums rowB
 rw [List.drop_take, Nat.succ_mul, Nat.add_sub_cancel_left]
theorem tyText_ev (w h : Nat) (cells : List Int) (hw : w ≤ 8) (hh : h ≤ 8) (hl : cells.length = w * h) : Ev (fun k => spec_tyText.f k w h cells) (textS w h cells) := by
 have main : ∀ (m y : Nat), y + m = h → Ev (fun k => spec_tyText.l0 k (textS w y cells) (y : Int) w h cells) (textS w h cells) := by
  intro m
  induction m with
  | zero =>
   intro y hy
   obtain rfl : y = h := by omega
   refine Ev.shift (g := fun _ => some (textS w y cells)) (Ev.const rfl) (fun k => ?_)
   simp only [spec_tyText.l0]
   rw [if_neg (by omega)]
  | succ m ih =>
   intro y hy
   have hb1 : y * w ≤ 64 := Nat.mul_le_mul (show y ≤ 8 by omega) hw
   have hb2 : (y + 1) * w ≤ 64 := Nat.mul_le_mul (show y + 1 ≤ 8 by omega) hw
   have hb3 : (y + 1) * w ≤ w * h := by rw [Nat.mul_comm w h]; exact Nat.mul_le_mul_right _ (by omega)
   have hs : (y + 1) * w = y * w + w := Nat.succ_mul y w
   have e1 : wrap64 ((y : Int) * (w : Int)) = ((y * w : Nat) : Int) := by
    rw [← Int.natCast_mul, wrap_s (by omega) (by omega)]
   have e2 : wrap64 (wrap64 ((y : Int) + 1) * (w : Int)) = (((y + 1) * w : Nat) : Int) := by
    rw [wrap_n y (by omega), ← Int.natCast_mul, wrap_s (by omega) (by omega)]
   have t1 := textB_length w cells hw y
   have t2 := rowB_length w cells y
   refine Ev.shift (ih (y + 1) (by omega)) (fun k => ?_)
   simp only [spec_tyText.l0]
   rw [e1, e2, wrap_n y (by omega), Int.toNat_natCast, Int.toNat_natCast, cut_row, if_pos (by omega)]
   by_cases h0 : y = 0
   ·subst h0
    rw [if_neg (by omega), if_pos (by omega), if_pos (by omega), if_pos (by omega)]
    unfold textS
    rw [ba_size, ba_size, if_pos (by omega), ba_append, textB_zero, textB_one, List.nil_append]
   ·rw [if_pos (by omega), if_pos (by unfold textS; rw [ba_size]; omega), if_pos (by omega), if_pos (by omega), if_pos (by omega)]
    unfold textS
    rw [show (⟨#[47]⟩ : ByteArray) = ⟨([47] : List UInt8).toArray⟩ from rfl, ba_append, ba_append, ba_size, ba_size, if_pos (by simp only [List.length_append, List.length_singleton]; omega), textB_succ w y cells (by omega)]
 exact main h 0 (by omega)
theorem text_eq (w h : Nat) (cells : List Int) (hw0 : 0 < w) (hh0 : 0 < h) (hw : w ≤ 8) (hh : h ≤ 8) (hl : cells.length = w * h) : impl_tray_text.f w h cells = some (textS w h cells) := by
 unfold impl_tray_text.f strings_Join.f
 rw [if_pos ⟨by omega, by omega, by omega, by omega, by rw [Int.toNat_natCast, Int.toNat_natCast, Nat.mul_comm h w]; exact hl⟩, Int.toNat_natCast, Int.toNat_natCast]
 have e : (rowsT w h cells).map (fun s => s.data.toList) = (List.range h).map (rowB w cells) := by
  unfold rowsT
  rw [List.map_map]
  apply List.map_congr_left
  intro j hj
  simp [rowT, strOfNums, rowB]
 rw [e]
 have t1 := textB_length w cells hw h
 rw [if_pos ⟨by simp [rowsT]; omega, by show (textB w h cells).length ≤ _; omega⟩]
 rfl
theorem fold_len (w h : Int) (cells : List Int) (d : Int) : ∀ (L : List Nat) (S : List (List Int)), (L.foldl (stepS w h cells d) S).length ≤ S.length + L.length
 | [], S => by simp
 | i :: L, S => by
  have h1 := fold_len w h cells d L (stepS w h cells d S i)
  have h2 : (stepS w h cells d S i).length ≤ S.length + 1 := by
   unfold stepS
   split
   ·omega
   ·split
    ·omega
    ·rw [insD_length]; omega
  rw [List.foldl_cons, List.length_cons]
  omega
theorem stretchesD_len (w h : Int) (cells : List Int) (d : Int) : (stretchesD w h cells d).length ≤ cells.length := by
 have := fold_len w h cells d (List.range cells.length) []
 simpa [stretchesD] using this
theorem tiMoves_all (w h : Nat) (cells : List Int) (d : Int) (hd : 0 ≤ d ∧ d ≤ 3) (hw0 : 0 < w) (hh0 : 0 < h) (hw : w ≤ 7) (hh : h ≤ 7) (hl : cells.length = w * h) :
  Ev (fun k => Za0.f k w h cells d) ((stretchesD w h cells d).flatMap (mvD cells 0 0)) := by
 have hwh0 : 0 < w * h := Nat.mul_pos hw0 hh0
 have hwh : w * h ≤ 49 := Nat.mul_le_mul hw hh
 have c1 : (cells.length : Int) = (w : Int) * (h : Int) := by rw [hl]; simp
 have c2 : (w : Int) * (h : Int) = ((w * h : Nat) : Int) := by simp
 have sl := stretchesD_len w h cells d
 refine Ev.bind (g := fun k t => Za0.l0 k [] t (t.length : Int) 0 w h cells) (tiStretches_ev w h d cells (by omega) (by omega) (by omega) (by omega) c1 (by omega) (by omega) hd) ?_
 exact tiMoves_ev w h cells _ (stretchesD_in w h cells d (by omega) (by omega) c1) (by omega) (fun own ho => by have := stretchesD_short w h cells d own ho; omega)
end Go.Proofs.YtjohcjkidoalkaaGreatDoor.Plain

namespace Go.Proofs.YtjohcjkidoalkaaGreatDoor.Plain
open Go.RowKit Go.Proofs.YtjohcjkidoalkaaGreatDoor.PA Go.PW.PrintWords Go.PW.PrintLast Go.PW.PrintMore
set_option linter.unusedVariables false
set_option linter.unusedSimpArgs false
def dirIx (c : UInt8) : Int := if c = 117 then 0 else if c = 114 then 1 else if c = 100 then 2 else if c = 108 then 3 else -1
theorem one_toList (c : UInt8) : (⟨#[c]⟩ : ByteArray).toList = [c] := by rw [Lib.toList_data]
theorem dirs_at : ((⟨#[117, 114, 100, 108]⟩ : ByteArray).extract 0 1).toList = [117] ∧ ((⟨#[117, 114, 100, 108]⟩ : ByteArray).extract 1 2).toList = [114] ∧ ((⟨#[117, 114, 100, 108]⟩ : ByteArray).extract 2 3).toList = [100] ∧ ((⟨#[117, 114, 100, 108]⟩ : ByteArray).extract 3 4).toList = [108] := by
 refine ⟨?_, ?_, ?_, ?_⟩ <;> rw [Lib.extract_toList] <;> rfl
theorem dirs_size : (⟨#[117, 114, 100, 108]⟩ : ByteArray).size = 4 := rfl
theorem dirs_word : (spec_tiDirs.f) = some (⟨#[117, 114, 100, 108]⟩ : ByteArray) := rfl
theorem tiDir_l0 (k : Nat) (x : ByteArray) (y : Int) : spec_tiDir.l0 (k + 1) x y = if y < 4 then ((spec_tiDirs.f).bind fun t101 => (if 0 ≤ y then (if y ≤ (wrap64 (y + 1)) then (if (wrap64 (y + 1)) ≤ (t101.size : Int) then (if x.toList = (t101.extract y.toNat ((wrap64 (y + 1)) : Int).toNat).toList then (some y) else (spec_tiDir.l0 k x (wrap64 (y + 1)))) else (none)) else (none)) else (none))) else (some (-1)) := by
 simp only [spec_tiDir.l0]
theorem tiDir_at (k : Nat) (x D : ByteArray) (j : Nat) (hj : j < 4) (hD : spec_tiDirs.f = some D) (hz : D.size = 4) : spec_tiDir.l0 (k + 1) x (j : Int) = if x.toList = (D.extract j (j + 1)).toList then some (j : Int) else spec_tiDir.l0 k x ((j + 1 : Nat) : Int) := by
 rw [tiDir_l0, hD, Option.bind_some, if_pos (by omega), if_pos (by omega), wrap_n j (by omega), if_pos (by omega), hz, if_pos (by omega), Int.toNat_natCast, Int.toNat_natCast]
theorem tiDir_step (x D : ByteArray) (c e : UInt8) (j : Nat) (hj : j < 4) (hD : spec_tiDirs.f = some D) (hz : D.size = 4) (hx : x.toList = [c]) (he : (D.extract j (j + 1)).toList = [e]) (r : Int) (h1 : c = e → r = j) (h2 : c ≠ e → Ev (fun k => spec_tiDir.l0 k x ((j + 1 : Nat) : Int)) r) :
  Ev (fun k => spec_tiDir.l0 k x (j : Int)) r := by
 by_cases h : c = e
 ·refine Ev.shift (g := fun _ => some r) (Ev.const rfl) (fun k => ?_)
  rw [tiDir_at k x D j hj hD hz, hx, he, if_pos (by rw [h]), h1 h]
 ·refine Ev.shift (h2 h) (fun k => ?_)
  rw [tiDir_at k x D j hj hD hz, hx, he, if_neg (by simpa using h)]
theorem tiDir_ev (c : UInt8) : Ev (fun k => spec_tiDir.f k ⟨#[c]⟩) (dirIx c) := by
 have d := dirs_at
 refine Ev.congr (g := fun k => spec_tiDir.l0 k ⟨#[c]⟩ ((0 : Nat) : Int)) ?_ (fun k => rfl)
 refine tiDir_step _ _ c 117 0 (by omega) dirs_word dirs_size (one_toList c) d.1 _ (fun h => by rw [h]; rfl) (fun h0 => ?_)
 refine tiDir_step _ _ c 114 1 (by omega) dirs_word dirs_size (one_toList c) d.2.1 _ (fun h => by rw [h]; rfl) (fun h1 => ?_)
 refine tiDir_step _ _ c 100 2 (by omega) dirs_word dirs_size (one_toList c) d.2.2.1 _ (fun h => by rw [h]; rfl) (fun h2 => ?_)
 refine tiDir_step _ _ c 108 3 (by omega) dirs_word dirs_size (one_toList c) d.2.2.2 _ (fun h => by rw [h]; rfl) (fun h3 => ?_)
 refine Ev.shift (g := fun _ => some (dirIx c)) (Ev.const rfl) (fun k => ?_)
 simp only [spec_tiDir.l0]
 rw [if_neg (by omega)]
 simp [dirIx, h0, h1, h2, h3]
theorem cut_one (s : ByteArray) (i : Nat) (hi : i < s.data.toList.length) : s.extract i (i + 1) = ⟨#[s.data.toList[i]]⟩ := by
 rw [Lib.extract_eq, show i + 1 - i = 1 by omega, drop_cons _ i hi, List.take_succ_cons, List.take_zero]
def goodD (c : UInt8) : Prop := c = 117 ∨ c = 114 ∨ c = 100 ∨ c = 108
theorem goodD_isD (c : UInt8) (h : goodD c) : isD (c.toNat : Int) ∧ dI (c.toNat : Int) = dirIx c := by
 rcases h with rfl | rfl | rfl | rfl
 ·exact ⟨Or.inl rfl, rfl⟩
 ·exact ⟨Or.inr (Or.inl rfl), rfl⟩
 ·exact ⟨Or.inr (Or.inr (Or.inl rfl)), rfl⟩
 ·exact ⟨Or.inr (Or.inr (Or.inr rfl)), rfl⟩
theorem goodD_ix (c : UInt8) : goodD c ↔ 0 ≤ dirIx c := by
 unfold goodD dirIx
 constructor
 ·rintro (rfl | rfl | rfl | rfl) <;> decide
 ·intro h
  split at h
  ·exact Or.inl (by assumption)
  ·split at h
   ·exact Or.inr (Or.inl (by assumption))
   ·split at h
    ·exact Or.inr (Or.inr (Or.inl (by assumption)))
    ·split at h
     ·exact Or.inr (Or.inr (Or.inr (by assumption)))
     ·omega
theorem dirIx_le (c : UInt8) : dirIx c ≤ 3 := by
 unfold dirIx
 split
 ·omega
 ·split
  ·omega
  ·split
   ·omega
   ·split <;> omega
def stillD (w h : Nat) (cells : List Int) (l : List UInt8) : Bool := l.all fun c => stillB w h cells (c.toNat : Int)
def addD (w h : Nat) (l : List UInt8) (cells : List Int) : List ByteArray := if stillD w h cells l = true then [textS w h cells] else []
theorem stillAll_ev (w h : Nat) (cells : List Int) (hw0 : 0 < w) (hh0 : 0 < h) (hw : w ≤ 8) (hh : h ≤ 8) (hl : cells.length = w * h) : ∀ l : List UInt8, (∀ c ∈ l, goodD c) →
  Ev (fun k => stillAll k w h cells (l.map fun b => (b.toNat : Int))) (stillD w h cells l)
 | [], _ => Ev.const rfl
 | c :: l, hg => by
  have ih := stillAll_ev w h cells hw0 hh0 hw hh hl l (fun c hc => hg c (List.mem_cons_of_mem _ hc))
  have hs := isStill_ev w h cells (c.toNat : Int) (goodD_isD c (hg c List.mem_cons_self)).1 hw0 hh0 hw hh hl
  rw [List.map_cons]
  refine Ev.bind (g := fun k b => if b = true then stillAll k w h cells (l.map fun b => (b.toNat : Int)) else some false) hs ?_
  have e : stillD w h cells (c :: l) = (stillB w h cells (c.toNat : Int) && stillD w h cells l) := by simp [stillD]
  rw [e]
  cases stillB w h cells (c.toNat : Int)
  ·exact Ev.const rfl
  ·exact ih.congr (fun k => rfl)
theorem stillF_ev (w h : Nat) (cells : List Int) (hw0 : 0 < w) (hh0 : 0 < h) (hw : w ≤ 8) (hh : h ≤ 8) (hl : cells.length = w * h) (text : ByteArray) (hg : ∀ c ∈ text.data.toList, goodD c) :
  Ev (fun k => stillF k w h cells text) (addD w h text.data.toList cells) := by
 have hs := stillAll_ev w h cells hw0 hh0 hw hh hl text.data.toList hg
 refine Ev.bind (g := fun k b => if b = true then (impl_tray_text.f w h cells).bind fun s => some [s] else some []) hs (Ev.const ?_)
 unfold addD
 cases stillD w h cells text.data.toList
 ·rfl
 ·rw [if_pos rfl, if_pos rfl, text_eq w h cells hw0 hh0 hw hh hl]; rfl
theorem stillsN_ev (w h : Nat) (cells list : List Int) (hw0 : 0 < w) (hh0 : 0 < h) (hw : w ≤ 8) (hh : h ≤ 8) (hl : cells.length = w * h) (text : ByteArray) (hg : ∀ c ∈ text.data.toList, goodD c) : ∀ n : Nat,
  Ev (fun k => stillsN k w h cells list text n) ((List.range n).flatMap fun s => addD w h text.data.toList (fillJ cells list s list.length))
 | 0 => Ev.const rfl
 | n + 1 => by
  have ih := stillsN_ev w h cells list hw0 hh0 hw hh hl text hg n
  have hf := stillF_ev w h (fillJ cells list n list.length) hw0 hh0 hw hh (by rw [fillJ_length]; exact hl) text hg
  refine Ev.bind (g := fun k out => (stillF k w h (fillJ cells list n list.length) text).bind fun r => some (out ++ r)) ih ?_
  refine Ev.bind (g := fun k r => some (_ ++ r)) hf (Ev.const ?_)
  rw [List.range_succ, List.flatMap_append]
  simp
theorem shl_pow : ∀ n : Nat, n ≤ 16 → shl .i64 1 (n : Int) = ((2 ^ n : Nat) : Int) := by decide
theorem allStill_ev (w h : Nat) (cells : List Int) (n : Nat) (hn : n ≤ 16) (hw0 : 0 < w) (hh0 : 0 < h) (hw : w ≤ 7) (hh : h ≤ 7) (hl : cells.length = w * h) (text : ByteArray) (hsz : text.size < 1000000) (hg : ∀ c ∈ text.data.toList, goodD c) :
  Ev (fun k => Zam.f k w h cells n text) ((List.range (2 ^ n)).flatMap fun s => addD w h text.data.toList (fillS (freeL cells) s cells)) := by
 have hp : 2 ^ n ≤ 65536 := Nat.pow_le_pow_right (by omega) hn
 have hwh : w * h ≤ 49 := Nat.mul_le_mul hw hh
 have hts : text.data.toList.length = text.size := (Lib.size_eq text).symm
 have moves : ∀ (s : Nat) (hs : s < 65536) (out : List ByteArray) (now : List Int) (r : List ByteArray) (i : Nat) (M : List Int) (hM : M.length < 1000000) (m j : Nat) (flag : Bool), j + m = M.length →
   Ev (fun k => Zam.l1 k n text out s (flag && (M.drop j).all fun x => x == 0) (wrap64 ((i : Int) + 1)) w h cells w h now) r →
   Ev (fun k => Zam.l2 k n text out s flag i M (M.length : Int) (j : Int) w h cells w h now) r := by
  intro s hs out now r i M hM m
  induction m with
  | zero =>
   intro j flag hj hr
   refine Ev.shift hr (fun k => ?_)
   simp only [Zam.l2]
   rw [if_neg (by omega), List.drop_eq_nil_of_le (by omega), List.all_nil, Bool.and_true]
  | succ m ih =>
   intro j flag hj hr
   have hlt : j < M.length := by omega
   rw [drop_cons M j hlt, List.all_cons, ← Bool.and_assoc] at hr
   refine Ev.shift (ih (j + 1) (flag && (M[j] == 0)) (by omega) hr) (fun k => ?_)
   simp only [Zam.l2]
   rw [if_pos (by omega), if_pos (by omega), if_pos (by omega), rd_n M j hlt, wrap_n j (by omega)]
   cases flag <;> rfl
 have dirs : ∀ (s : Nat) (hs : s < 65536) (out : List ByteArray) (ho : out.length ≤ 65536) (now : List Int) (hnow : now.length = w * h) (r : List ByteArray) (m i : Nat) (flag : Bool), i + m = text.data.toList.length →
   Ev (fun k => Zam.l0 k n text (out ++ if (flag && stillD w h now (text.data.toList.drop i)) = true then [textS w h now] else []) ((s + 1 : Nat) : Int) w h cells) r →
   Ev (fun k => Zam.l1 k n text out s flag (i : Int) w h cells w h now) r := by
  intro s hs out ho now hnow r m
  induction m with
  | zero =>
   intro i flag hi hr
   rw [List.drop_eq_nil_of_le (by omega), stillD, List.all_nil, Bool.and_true] at hr
   have step : Ev (fun k => Zam.j2 k n text out s flag (i : Int) false w h cells w h now) r := by
    cases flag
    ·simp only [Bool.false_eq_true, if_false, List.append_nil] at hr
     refine Ev.shift hr (fun k => ?_)
     simp only [Zam.j2]
     rw [if_neg (by simp), if_neg (by simp), wrap_n s (by omega)]
    ·have ht := tyText_ev w h now (by omega) (by omega) hnow
     refine Ev.shift (g := fun k => (spec_tyText.f k w h now).bind fun t => if out.length < 8796093022208 then Zam.l0 k n text (out ++ [t]) ((s + 1 : Nat) : Int) w h cells else none) (Ev.bind ht ?_) (fun k => ?_)
     ·refine Ev.congr hr (fun k => ?_)
      simp only [if_true]
      rw [if_pos (show out.length < 8796093022208 by omega)]
     ·simp only [Zam.j2]
      rw [if_neg (by simp), if_pos trivial, wrap_n s (by omega)]
   refine Ev.shift step (fun k => ?_)
   simp only [Zam.l1]
   rw [if_neg (by omega)]
  | succ m ih =>
   intro i flag hi hr
   have hlt : i < text.data.toList.length := by omega
   have hgi := hg _ (List.getElem_mem hlt)
   have hd := goodD_isD _ hgi
   rw [drop_cons _ i hlt] at hr
   have e : ∀ c l, stillD w h now (c :: l) = (stillB w h now (c.toNat : Int) && stillD w h now l) := fun c l => by simp [stillD]
   rw [e] at hr
   cases flag
   ·simp only [Bool.false_and, Bool.false_eq_true, if_false, List.append_nil] at hr
    refine Ev.shift (g := fun k => Zam.j2 k n text out s false (i : Int) false w h cells w h now) ?_ (fun k => ?_)
    ·refine Ev.shift hr (fun k => ?_)
     simp only [Zam.j2]
     rw [if_neg (by simp), if_neg (by simp), wrap_n s (by omega)]
    ·simp only [Zam.l1]
     rw [if_pos (by omega)]
   ·have hm := tiMoves_all w h now (dirIx text.data.toList[i]) ⟨(goodD_ix _).1 hgi, dirIx_le _⟩ hw0 hh0 hw hh hnow
    have hmL : ((stretchesD w h now (dirIx text.data.toList[i])).flatMap (mvD now 0 0)).length < 1000000 := by
     have h1 := stretchesD_len w h now (dirIx text.data.toList[i])
     have h2 := stretchesD_short w h now (dirIx text.data.toList[i])
     have : ∀ S : List (List Int), (∀ s ∈ S, s.length ≤ 9) → (S.flatMap (mvD now 0 0)).length ≤ S.length * 9 := by
      intro S
      induction S with
      | nil => intro _; simp
      | cons s S ih =>
       intro hS
       have h1 := ih (fun s hs => hS s (List.mem_cons_of_mem _ hs))
       have h2 := hS s List.mem_cons_self
       have h3 := mvD_length now 0 0 s
       rw [List.flatMap_cons, List.length_append, List.length_cons]
       omega
     have := this _ h2
     omega
    refine Ev.shift (g := fun k => Zam.j2 k n text out s true (i : Int) true w h cells w h now) ?_ (fun k => ?_)
    ·refine Ev.shift (g := fun k => (spec_tiDir.f k ⟨#[text.data.toList[i]]⟩).bind fun t => (Za0.f k w h now t).bind fun M => Zam.l2 k n text out s true i M (M.length : Int) 0 w h cells w h now) ?_ (fun k => ?_)
     ·refine Ev.bind (g := fun k t => (Za0.f k w h now t).bind fun M => Zam.l2 k n text out s true i M (M.length : Int) 0 w h cells w h now) (tiDir_ev _) ?_
      refine Ev.bind (g := fun k M => Zam.l2 k n text out s true i M (M.length : Int) 0 w h cells w h now) hm ?_
      refine moves s hs out now r i _ hmL _ 0 true (Nat.zero_add _) ?_
      rw [wrap_n i (by omega)]
      refine ih (i + 1) _ (by omega) ?_
      have e2 : stillB w h now ((text.data.toList[i].toNat : Nat) : Int) = ((stretchesD w h now (dirIx text.data.toList[i])).flatMap (mvD now 0 0)).all fun x => x == 0 := by
       unfold stillB; rw [hd.2]
      rw [e2] at hr
      simpa using hr
     ·simp only [Zam.j2]
      rw [if_pos trivial, if_pos (by omega), wrap_n i (by omega), if_pos (by omega), if_pos (by omega), Int.toNat_natCast, Int.toNat_natCast, cut_one text i hlt]
    ·simp only [Zam.l1]
     rw [if_pos (by omega)]
 have outer : ∀ (m s : Nat) (out : List ByteArray), s + m = 2 ^ n → out.length ≤ s →
   Ev (fun k => Zam.l0 k n text out (s : Int) w h cells) (out ++ (List.range' s m).flatMap fun s => addD w h text.data.toList (fillS (freeL cells) s cells)) := by
  intro m
  induction m with
  | zero =>
   intro s out hs ho
   refine Ev.shift (g := fun _ => some out) (Ev.const (by simp)) (fun k => ?_)
   simp only [Zam.l0]
   rw [if_pos (by omega), shl_pow n hn, if_neg (by omega)]
  | succ m ih =>
   intro s out hs ho
   have hf := cnFill_ev w h cells s (by omega) (by omega)
   have hlen : (fillS (freeL cells) s cells).length = w * h := by rw [fillS_length]; exact hl
   refine Ev.shift (g := fun k => (spec_cnFill.f k w h cells s).bind fun b => Zam.l1 k n text out s true 0 w h cells b.1 b.2.1 b.2.2) (Ev.bind hf ?_) (fun k => ?_)
   ·refine dirs s (by omega) out (by omega) _ hlen _ _ 0 true (Nat.zero_add _) ?_
    have hlA : (addD w h text.data.toList (fillS (freeL cells) s cells)).length ≤ 1 := by
     unfold addD; split <;> simp
    have := ih (s + 1) (out ++ addD w h text.data.toList (fillS (freeL cells) s cells)) (by omega) (by rw [List.length_append]; omega)
    rw [List.range'_succ, List.flatMap_cons, ← List.append_assoc]
    exact this
   ·simp only [Zam.l0]
    rw [if_pos (by omega), shl_pow n hn, if_pos (by omega)]
 have := outer (2 ^ n) 0 [] (by omega) (by simp)
 rw [← List.range_eq_range'] at this
 exact this
def consH (c : UInt8) : List (List UInt8) → List (List UInt8)
 | [] => [[c]]
 | r :: rs => (c :: r) :: rs
def rowsOf : List UInt8 → List (List UInt8)
 | [] => [[]]
 | c :: cs => if c = 47 then [] :: rowsOf cs else consH c (rowsOf cs)
theorem rowsOf_ne : ∀ l, rowsOf l ≠ []
 | [] => by simp [rowsOf]
 | c :: cs => by
  rw [rowsOf]
  split
  ·simp
  ·cases rowsOf cs <;> simp [consH]
theorem rowsOf_none : ∀ l : List UInt8, l.count 47 = 0 → rowsOf l = [l]
 | [], _ => rfl
 | c :: cs, h => by
  have hc : c ≠ 47 := by rintro rfl; simp at h
  have h2 : cs.count 47 = 0 := by rw [List.count_cons_of_ne hc] at h; exact h
  rw [rowsOf, if_neg hc, rowsOf_none cs h2, consH]
theorem rowsOf_some : ∀ l : List UInt8, l.count 47 ≠ 0 → ∃ m : Nat, Lib.indexByte l 47 = m ∧ m < l.length ∧ rowsOf l = l.take m :: rowsOf (l.drop (m + 1)) ∧ (l.drop (m + 1)).count 47 + 1 = l.count 47
 | [], h => by simp at h
 | c :: cs, h => by
  by_cases hc : c = 47
  ·subst hc
   refine ⟨0, by simp [Lib.indexByte], by simp, by simp [rowsOf], by simp⟩
  ·have e : (c :: cs).count 47 = cs.count 47 := List.count_cons_of_ne hc
   rw [e] at h
   obtain ⟨m, h1, h2, h3, h4⟩ := rowsOf_some cs h
   refine ⟨m + 1, ?_, by simp only [List.length_cons]; omega, ?_, ?_⟩
   ·have hb : (c == 47) = false := by simpa using hc
    have hn : ((m : Int) == -1) = false := beq_eq_false_iff_ne.2 (by omega)
    rw [Lib.indexByte, hb, h1, hn]
    simp
   ·rw [rowsOf, if_neg hc, h3, consH]; simp
   ·rw [e]; simpa using h4
theorem rowsOf_len : ∀ l : List UInt8, (rowsOf l).length = l.count 47 + 1
 | [] => rfl
 | c :: cs => by
  have ih := rowsOf_len cs
  rw [rowsOf]
  by_cases hc : c = 47
  ·rw [if_pos hc, List.length_cons, ih, hc]; simp
  ·rw [if_neg hc, List.count_cons_of_ne hc]
   have := rowsOf_ne cs
   revert ih this
   cases rowsOf cs with
   | nil => intro _ q; exact absurd rfl q
   | cons r rs => intro q _; simpa [consH] using q
def baOf (l : List UInt8) : ByteArray := ⟨l.toArray⟩
theorem baOf_data (l : List UInt8) : (baOf l).data.toList = l := rfl
theorem baOf_self (s : ByteArray) : baOf s.data.toList = s := Lib.mk_data s
theorem slash_size : (⟨#[47]⟩ : ByteArray).size = 1 := rfl
theorem index_slash (s : ByteArray) : strings_Index.f s ⟨#[47]⟩ = some (Lib.indexByte s.data.toList 47) := by
 unfold strings_Index.f; rw [if_pos slash_size]; rfl
theorem count_slash (s : ByteArray) : strings_Count.f s ⟨#[47]⟩ = some ((s.data.toList.count 47 : Nat) : Int) := by
 unfold strings_Count.f; rw [if_pos slash_size]; rfl
theorem mn_le (a b : Int) (h : a ≤ b) : mn a b = a := by unfold mn; omega
theorem split_loop (n : Nat) (hn : n < 4294967296) : ∀ (c i : Nat) (s : ByteArray) (done : List ByteArray), s.size < 4294967296 → s.data.toList.count 47 = c → i + c + 1 = n → done.length = i →
  Ev (fun k => Zav.l0 k s ⟨#[47]⟩ 0 ((n : Int) - 1) (done ++ List.replicate (n - i) ⟨#[]⟩) (i : Int)) (done ++ (rowsOf s.data.toList).map baOf)
 | 0, i, s, done, hs, hc, hi, hd => by
  have hlen : (done ++ List.replicate (n - i) (⟨#[]⟩ : ByteArray)).length = n := by simp; omega
  refine Ev.shift (g := fun _ => some (done ++ (rowsOf s.data.toList).map baOf)) (Ev.const rfl) (fun k => ?_)
  simp only [Zav.l0]
  rw [if_neg (by omega), if_pos (by omega), hlen, if_pos (by omega), wrap_n i (by omega), if_pos (by omega), if_pos (by omega), rowsOf_none _ hc, List.map_singleton, baOf_self, Int.toNat_natCast, Int.toNat_natCast]
  congr 1
  rw [show n - i = 0 + 1 by omega, List.replicate_succ, List.replicate_zero, List.set_append_right _ _ (by omega), hd, Nat.sub_self, List.set_cons_zero, List.take_of_length_le (by simp only [List.length_append, List.length_singleton]; omega)]
 | c + 1, i, s, done, hs, hc, hi, hd => by
  have hlen : (done ++ List.replicate (n - i) (⟨#[]⟩ : ByteArray)).length = n := by simp; omega
  obtain ⟨m, h1, h2, h3, h4⟩ := rowsOf_some s.data.toList (by omega)
  have hsz : s.size = s.data.toList.length := Lib.size_eq s
  have hdrop : (s.extract (m + 1) s.size).data.toList = s.data.toList.drop (m + 1) := by
   rw [Lib.extract_data, List.take_of_length_le (by rw [List.length_drop]; omega)]
  have htake : s.extract 0 m = baOf (s.data.toList.take m) := by rw [Lib.extract_eq]; rfl
  have ih := split_loop n hn c (i + 1) (s.extract (m + 1) s.size) (done ++ [baOf (s.data.toList.take m)]) (by rw [Lib.size_eq, hdrop, List.length_drop]; omega) (by rw [hdrop]; omega) (by omega) (by simp; omega)
  rw [hdrop] at ih
  refine Ev.shift (g := fun k => Zav.l0 k (s.extract (m + 1) s.size) ⟨#[47]⟩ 0 ((n : Int) - 1) (done ++ [baOf (s.data.toList.take m)] ++ List.replicate (n - (i + 1)) ⟨#[]⟩) ((i + 1 : Nat) : Int)) ?_ (fun k => ?_)
  ·rw [h3, List.map_cons]
   simpa using ih
  ·simp only [Zav.l0]
   rw [if_pos (by omega), index_slash, h1, Option.bind_some, if_neg (by omega), Int.add_zero, slash_size, wrap_s (x := (m : Int)) (by omega) (by omega), if_pos (by omega), if_pos (by omega), if_pos (by omega), hlen, if_pos (by omega),
    show (m : Int) + ((1 : Nat) : Int) = ((m + 1 : Nat) : Int) by omega, wrap_s (x := ((m + 1 : Nat) : Int)) (by omega) (by omega), if_pos (by omega), if_pos (by omega), wrap_n i (by omega), Int.toNat_natCast, Int.toNat_natCast, Int.toNat_natCast, htake]
   congr 1
   rw [show n - i = (n - (i + 1)) + 1 by omega, List.replicate_succ, List.set_append_right _ _ (by omega), hd, Nat.sub_self, List.set_cons_zero]
   simp
theorem split_ev (s : ByteArray) (hs : s.size < 4294967290) : Ev (fun k => strings_Split.f k s ⟨#[47]⟩) ((rowsOf s.data.toList).map baOf) := by
 have hsz : s.size = s.data.toList.length := Lib.size_eq s
 have hcl : s.data.toList.count 47 ≤ s.data.toList.length := List.count_le_length
 have main := split_loop (s.data.toList.count 47 + 1) (by omega) (s.data.toList.count 47) 0 s [] (by omega) rfl (by omega) rfl
 have g0 : Ev (fun k => Zav.j0 k s ⟨#[47]⟩ 0 ((s.data.toList.count 47 + 1 : Nat) : Int)) ((rowsOf s.data.toList).map baOf) := by
  refine Ev.shift (g := fun k => Zav.l0 k s ⟨#[47]⟩ 0 (((s.data.toList.count 47 + 1 : Nat) : Int) - 1) (List.replicate (s.data.toList.count 47 + 1) ⟨#[]⟩) 0) (by simpa using main) (fun k => ?_)
  simp only [Zav.j0]
  rw [wrap_n s.size (by omega), mn_le _ _ (by omega), if_pos (by omega), Int.toNat_natCast, if_pos (by omega), wrap_s (by omega) (by omega)]
 refine Ev.congr g0 (fun k => ?_)
 unfold strings_Split.f Zav.f
 rw [if_neg (by omega), if_neg (by rw [one_toList]; simp), if_pos (by omega), count_slash, Option.bind_some, wrap_n _ (by omega)]
 cases Zav.j0 k s ⟨#[47]⟩ 0 ((s.data.toList.count 47 + 1 : Nat) : Int) <;> rfl
def okC (c : UInt8) : Bool := c == 35 || c == 46 || ballB (c.toNat : Int)
def widthT (l : List UInt8) : Nat := ((rowsOf l).headD []).length
def heightT (l : List UInt8) : Nat := (rowsOf l).length
def namesOk (l : List UInt8) : Bool := ([97, 98, 99, 100, 101, 102] : List UInt8).all fun c => decide (l.count c ≤ 1)
def sizeOk (w h : Nat) : Bool := decide (1 ≤ w) && decide (w ≤ 7) && decide (1 ≤ h) && decide (h ≤ 7) && decide (w * h ≤ 36)
def rowOk (w : Nat) (r : List UInt8) : Bool := decide (r.length = w) && r.all okC
def okT (l : List UInt8) : Bool := sizeOk (widthT l) (heightT l) && (rowsOf l).all (rowOk (widthT l)) && namesOk l
def Za7 (l : List UInt8) : List Int := (rowsOf l).flatten.map fun b => (b.toNat : Int)
theorem dropWhile_nil (p : UInt8 → Bool) : ∀ l : List UInt8, l.dropWhile p = [] ↔ l.all p = true
 | [] => by simp
 | c :: cs => by
  rw [List.dropWhile_cons, List.all_cons]
  cases hc : p c
  ·simp
  ·simpa using dropWhile_nil p cs
theorem trimS_nil (l cs : List UInt8) : Lib.trimS l cs = [] ↔ l.all (fun c => cs.contains c) = true := by
 unfold Lib.trimS Lib.trimLeftS Lib.trimRightS
 constructor
 ·intro h
  rw [dropWhile_nil] at h
  have hr : l.reverse.dropWhile (fun x => cs.contains x) = [] := by
   cases hq : l.reverse.dropWhile (fun x => cs.contains x) with
   | nil => rfl
   | cons a q =>
    have h1 : cs.contains a = true := by
     rw [hq, List.all_reverse, List.all_cons, Bool.and_eq_true] at h
     exact h.1
    have := List.head_dropWhile_not (p := fun x => cs.contains x) (l := l.reverse) (by rw [hq]; simp)
    simp only [hq, List.head_cons] at this
    rw [h1] at this
    cases this
  rw [dropWhile_nil, List.all_reverse] at hr
  exact hr
 ·intro h
  have hr : l.reverse.dropWhile (fun x => cs.contains x) = [] := by rw [dropWhile_nil, List.all_reverse]; exact h
  rw [hr]
  rfl
theorem trim_eq (s cut : ByteArray) (hs : s.size < 4294967296) (h1 : cut.size < 1000) (h2 : cut.data.toList.all (fun c => decide (c.toNat < 128)) = true) : ∃ t, strings_Trim.f s cut = some t ∧ (t.toList = [] ↔ s.data.toList.all (fun c => cut.data.toList.contains c) = true) := by
 refine ⟨⟨(Lib.trimS s.data.toList cut.data.toList).toArray⟩, ?_, ?_⟩
 ·unfold strings_Trim.f
  rw [if_pos ⟨by omega, h1, h2⟩]
 ·rw [Lib.toList_data]; exact trimS_nil _ _
theorem okC_cut : ∀ c : UInt8, ([35, 46, 111, 97, 98, 99, 100, 101, 102] : List UInt8).contains c = okC c := by
 have h : ∀ n : Nat, n < 256 → ([35, 46, 111, 97, 98, 99, 100, 101, 102] : List UInt8).contains (UInt8.ofNat n) = okC (UInt8.ofNat n) := by decide +kernel
 intro c
 have := h c.toNat c.toNat_lt
 rwa [UInt8.ofNat_toNat] at this
theorem isSize_eq (w h : Nat) : impl_isSize.f w h = some (sizeOk w h) := by
 unfold impl_isSize.f impl_within.f sizeOk
 by_cases h1 : 1 ≤ w
 ·by_cases h2 : w ≤ 7
  ·by_cases h3 : 1 ≤ h
   ·by_cases h4 : h ≤ 7
    ·have hm : w * h ≤ 49 := Nat.mul_le_mul h2 h4
     have e : wrap64 ((w : Int) * (h : Int)) = ((w * h : Nat) : Int) := by
      rw [← Int.natCast_mul, wrap_s (by omega) (by omega)]
     rw [e]
     simp only [h1, h2, h3, h4, decide_true, Bool.and_true, Bool.true_and]
     rw [if_pos (by omega)]
     simp only [Option.bind_some]
     rw [if_pos (by simp; omega), if_pos (by omega)]
     simp only [Option.bind_some]
     rw [if_pos (by simp; omega)]
     congr 1
     rw [decide_eq_decide]; omega
    ·rw [if_pos (by omega), if_pos (by omega)]
     simp [h1, h2, h3, h4] <;> omega
   ·rw [if_pos (by omega), if_neg (by omega)]
    simp [h1, h2, h3] <;> omega
  ·rw [if_pos (by omega)]
   simp [h1, h2] <;> omega
 ·rw [if_neg (by omega)]
  simp [h1]
theorem rdOf_n (L : List ByteArray) (j : Nat) (h : j < L.length) : rdOf ByteArray.empty L (j : Int) = L[j] := by
 simp [rdOf, List.getD_eq_getElem?_getD, List.getElem?_eq_getElem h]
theorem name_enc : ∀ n : Nat, n < 128 → (Utf8.encode (n : Int)) = ⟨#[UInt8.ofNat n]⟩ := by decide
theorem wrap32_n (j : Nat) (h : j < 1000) : wrap32 ((j : Int) + 1) = ((j + 1 : Nat) : Int) := by
 unfold wrap32; omega
theorem names_ev (t : ByteArray) : Ev (fun k => Za4.l1 k t 97) (namesOk t.data.toList) := by
 have step : ∀ (j : Nat) (r : Bool), 97 ≤ j → j ≤ 102 → (Ev (fun k => Za4.l1 k t ((j + 1 : Nat) : Int)) r) → Ev (fun k => Za4.l1 k t (j : Int)) (decide (t.data.toList.count (UInt8.ofNat j) ≤ 1) && r) := by
  intro j r h1 h2 hr
  have hc : strings_Count.f t (Utf8.encode (j : Int)) = some ((t.data.toList.count (UInt8.ofNat j) : Nat) : Int) := by
   rw [name_enc j (by omega)]
   unfold strings_Count.f
   rw [if_pos (show (⟨#[UInt8.ofNat j]⟩ : ByteArray).size = 1 from rfl)]
   rfl
  refine Ev.shift (g := fun k => if t.data.toList.count (UInt8.ofNat j) ≤ 1 then Za4.l1 k t ((j + 1 : Nat) : Int) else some false) ?_ (fun k => ?_)
  ·by_cases q : t.data.toList.count (UInt8.ofNat j) ≤ 1
   ·simp only [if_pos q, decide_eq_true q, Bool.true_and]; exact hr
   ·simp only [if_neg q, decide_eq_false q, Bool.false_and]; exact Ev.const rfl
  ·simp only [Za4.l1]
   rw [if_pos (by omega), hc, Option.bind_some, wrap32_n j (by omega)]
   by_cases q : t.data.toList.count (UInt8.ofNat j) ≤ 1
   ·rw [if_neg (by omega), if_pos q]
   ·rw [if_pos (by omega), if_neg q]
 have last : Ev (fun k => Za4.l1 k t ((103 : Nat) : Int)) true := by
  refine Ev.shift (g := fun _ => some true) (Ev.const rfl) (fun k => ?_)
  simp only [Za4.l1]
  rw [if_neg (by omega)]
 have h := step 97 _ (by omega) (by omega) (step 98 _ (by omega) (by omega) (step 99 _ (by omega) (by omega) (step 100 _ (by omega) (by omega) (step 101 _ (by omega) (by omega) (step 102 _ (by omega) (by omega) last)))))
 have e : namesOk t.data.toList = (decide (t.data.toList.count (UInt8.ofNat 97) ≤ 1) && (decide (t.data.toList.count (UInt8.ofNat 98) ≤ 1) && (decide (t.data.toList.count (UInt8.ofNat 99) ≤ 1) && (decide (t.data.toList.count (UInt8.ofNat 100) ≤ 1) && (decide (t.data.toList.count (UInt8.ofNat 101) ≤ 1) && (decide (t.data.toList.count (UInt8.ofNat 102) ≤ 1) && true)))))) := rfl
 rw [e]
 exact h
theorem rows_ev (t : ByteArray) (L : List ByteArray) (hL : L.length < 4294967296) (h0 : 0 < L.length) (hs : ∀ r ∈ L, r.size < 4294967296) : ∀ (m j : Nat), j + m = L.length →
  Ev (fun k => Za4.l0 k t L L (L.length : Int) (j : Int)) ((L.drop j).all (fun r => rowOk L[0].size r.data.toList) && namesOk t.data.toList)
 | 0, j, hj => by
  rw [List.drop_eq_nil_of_le (by omega), List.all_nil, Bool.true_and]
  refine Ev.shift (names_ev t) (fun k => ?_)
  simp only [Za4.l0]
  rw [if_neg (by omega)]
 | m + 1, j, hj => by
  have hlt : j < L.length := by omega
  have ih := rows_ev t L hL h0 hs m (j + 1) (by omega)
  obtain ⟨tr, ht1, ht2⟩ := trim_eq L[j] ⟨#[35, 46, 111, 97, 98, 99, 100, 101, 102]⟩ (hs _ (List.getElem_mem _)) (by decide) (by decide)
  have hsz : L[j].size = L[j].data.toList.length := Lib.size_eq _
  have e2 : (tr.toList = []) ↔ L[j].data.toList.all okC = true := by
   rw [ht2]
   have : ∀ l : List UInt8, l.all (fun c => ([35, 46, 111, 97, 98, 99, 100, 101, 102] : List UInt8).contains c) = l.all okC := by
    intro l; congr 1; funext c; exact okC_cut c
   rw [← this]
  rw [drop_cons L j hlt, List.all_cons, Bool.and_assoc]
  refine Ev.shift (g := fun k => if L[j].size = L[0].size then (if tr.toList = [] then Za4.l0 k t L L (L.length : Int) ((j + 1 : Nat) : Int) else some false) else some false) ?_ (fun k => ?_)
  ·by_cases q1 : L[j].size = L[0].size
   ·by_cases q2 : tr.toList = []
    ·have e : rowOk L[0].size L[j].data.toList = true := by
      unfold rowOk; rw [← hsz, decide_eq_true q1, e2.1 q2]; rfl
     simp only [if_pos q1, if_pos q2, e, Bool.true_and]
     exact ih
    ·have e : rowOk L[0].size L[j].data.toList = false := by
      unfold rowOk
      cases q3 : L[j].data.toList.all okC
      ·simp
      ·exact absurd (e2.2 q3) q2
     simp only [if_pos q1, if_neg q2, e, Bool.false_and]
     exact Ev.const rfl
   ·have e : rowOk L[0].size L[j].data.toList = false := by
     unfold rowOk; rw [← hsz, decide_eq_false q1]; rfl
    simp only [if_neg q1, e, Bool.false_and]
    exact Ev.const rfl
  ·simp only [Za4.l0]
   rw [if_pos (by omega), if_pos (by omega), if_pos (by omega), if_pos (by omega), rdOf_n L j hlt, show (0 : Int) = ((0 : Nat) : Int) from rfl, rdOf_n L 0 h0, ht1, Option.bind_some, wrap_n j (by omega)]
   by_cases q1 : L[j].size = L[0].size
   ·rw [if_pos (by omega), if_pos q1]
   ·rw [if_neg (by omega), if_neg q1]
theorem rowsOf_small : ∀ (l : List UInt8), ∀ r ∈ rowsOf l, r.length ≤ l.length
 | [], r, h => by simp [rowsOf] at h; simp [h]
 | c :: cs, r, h => by
  have ih := rowsOf_small cs
  rw [rowsOf] at h
  split at h
  ·rcases List.mem_cons.1 h with q | q
   ·simp [q]
   ·have := ih r q; simp only [List.length_cons]; omega
  ·have hne := rowsOf_ne cs
   revert h ih hne
   cases rowsOf cs with
   | nil => intro _ _ q; exact absurd rfl q
   | cons a tl =>
    intro ih h _
    rcases List.mem_cons.1 h with q | q
    ·have := ih a List.mem_cons_self; rw [q]; simp only [List.length_cons]; omega
    ·have := ih r (List.mem_cons_of_mem _ q); simp only [List.length_cons]; omega
theorem head_len (L : List (List UInt8)) (h : 0 < L.length) : (L[0]'h).length = (L.headD []).length := by
 cases L with
 | nil => simp at h
 | cons r rs => rfl
theorem IsTray_ev (t : ByteArray) (ht : t.size < 4294967290) : Ev (fun k => Za4.f k t) (okT t.data.toList) := by
 have hsz : t.size = t.data.toList.length := Lib.size_eq t
 have hcl : t.data.toList.count 47 ≤ t.data.toList.length := List.count_le_length
 have hlen : ((rowsOf t.data.toList).map baOf).length = heightT t.data.toList := by rw [List.length_map]; rfl
 have hH : heightT t.data.toList = t.data.toList.count 47 + 1 := rowsOf_len _
 have h0 : 0 < ((rowsOf t.data.toList).map baOf).length := by omega
 have hW : ((rowsOf t.data.toList).map baOf)[0].size = widthT t.data.toList := by
  unfold widthT
  rw [List.getElem_map, Lib.size_eq, baOf_data]
  exact head_len _ _
 have main := rows_ev t ((rowsOf t.data.toList).map baOf) (by omega) h0 (fun r hr => by
  obtain ⟨x, hx, rfl⟩ := List.mem_map.1 hr
  have := rowsOf_small _ x hx
  rw [Lib.size_eq, baOf_data]; omega) _ 0 (Nat.zero_add _)
 refine Ev.bind (g := fun k t101 => if 0 < (t101.length : Int) then ((impl_isSize.f ((rdOf ByteArray.empty t101 0).size : Int) (t101.length : Int)).bind fun t105 => (if t105 = true then (Za4.l0 k t t101 t101 (t101.length : Int) 0) else (some false))) else none) (split_ev t ht) ?_
 have hr0 : rdOf ByteArray.empty ((rowsOf t.data.toList).map baOf) 0 = ((rowsOf t.data.toList).map baOf)[0] := rdOf_n _ 0 h0
 refine Ev.congr (g := fun k => if sizeOk (widthT t.data.toList) (heightT t.data.toList) = true then Za4.l0 k t ((rowsOf t.data.toList).map baOf) ((rowsOf t.data.toList).map baOf) ((((rowsOf t.data.toList).map baOf).length : Nat) : Int) 0 else some false) ?_ (fun k => ?_)
 ·unfold okT
  cases sizeOk (widthT t.data.toList) (heightT t.data.toList)
  ·exact Ev.const rfl
  ·refine Ev.congr (g := fun k => Za4.l0 k t ((rowsOf t.data.toList).map baOf) ((rowsOf t.data.toList).map baOf) ((((rowsOf t.data.toList).map baOf).length : Nat) : Int) ((0 : Nat) : Int)) ?_ (fun k => rfl)
   rw [hW, List.drop_zero, List.all_map] at main
   simpa [Function.comp_def, baOf_data] using main
 ·rw [if_pos (by omega), hr0, hW, hlen, isSize_eq, Option.bind_some]
theorem read_ev (t : ByteArray) (ht : t.size < 4294967290) : Ev (fun k => impl_read.f k t) ((widthT t.data.toList : Nat), (heightT t.data.toList : Nat), Za7 t.data.toList) := by
 have hsz : t.size = t.data.toList.length := Lib.size_eq t
 have hcl : t.data.toList.count 47 ≤ t.data.toList.length := List.count_le_length
 have hlen : ((rowsOf t.data.toList).map baOf).length = heightT t.data.toList := by rw [List.length_map]; rfl
 have hH : heightT t.data.toList = t.data.toList.count 47 + 1 := rowsOf_len _
 have h0 : 0 < ((rowsOf t.data.toList).map baOf).length := by omega
 have hW : ((rowsOf t.data.toList).map baOf)[0].size = widthT t.data.toList := by
  unfold widthT
  rw [List.getElem_map, Lib.size_eq, baOf_data]
  exact head_len _ _
 have hr0 : rdOf ByteArray.empty ((rowsOf t.data.toList).map baOf) 0 = ((rowsOf t.data.toList).map baOf)[0] := rdOf_n _ 0 h0
 have flat : ∀ l : List UInt8, (rowsOf l).flatten.length ≤ l.length := by
  intro l
  induction l with
  | nil => simp [rowsOf]
  | cons c cs ih =>
   rw [rowsOf]
   split
   ·simp only [List.flatten_cons, List.nil_append, List.length_cons]; omega
   ·revert ih
    cases rowsOf cs with
    | nil => intro _; simp [consH]
    | cons r rs => intro ih; simp only [consH, List.flatten_cons, List.length_append, List.length_cons] at ih ⊢; omega
 have jn : ∀ L : List (List UInt8), Lib.join L [] = L.flatten := by
  intro L
  cases L with
  | nil => rfl
  | cons r rs => rw [Lib.join_cons]; simp [Lib.joinTail]
 have hj : strings_Join.f ((rowsOf t.data.toList).map baOf) ⟨#[]⟩ = some (baOf (rowsOf t.data.toList).flatten) := by
  unfold strings_Join.f
  have e : ((rowsOf t.data.toList).map baOf).map (fun s => s.data.toList) = rowsOf t.data.toList := by
   rw [List.map_map]; exact List.map_id' _
  have := flat t.data.toList
  rw [e, show (⟨#[]⟩ : ByteArray).data.toList = [] from rfl, jn, if_pos ⟨by omega, by omega⟩]
  rfl
 refine Ev.bind (g := fun k rows => if 0 < rows.length then (strings_Join.f rows (⟨#[]⟩ : ByteArray)).bind fun s => some (((rdOf ByteArray.empty rows 0).size : Int), (rows.length : Int), bytesOf s) else none) (split_ev t ht) (Ev.const ?_)
 rw [if_pos h0, hj, Option.bind_some, hr0, hW, hlen]
 rfl
def scanT : Nat → Nat → Nat → List Int → List UInt8 → Option (Nat × Nat × List Int)
 | x, gw, gh, cells, [] => if x = 0 ∨ (0 < gh ∧ x ≠ gw) then none else some (x, gh + 1, cells)
 | x, gw, gh, cells, c :: cs => if c = 47 then (if x = 0 ∨ (0 < gh ∧ x ≠ gw) then none else scanT 0 x (gh + 1) cells cs) else if okC c = true then scanT (x + 1) gw gh (cells ++ [(c.toNat : Int)]) cs else none
theorem scan_rows : ∀ (l : List UInt8) (x gw gh : Nat) (cells : List Int) (r : List UInt8) (rs : List (List UInt8)), rowsOf l = r :: rs →
  scanT x gw gh cells l = if r.all okC = true ∧ (∀ q ∈ rs, rowOk (x + r.length) q = true) ∧ x + r.length ≠ 0 ∧ (gh = 0 ∨ x + r.length = gw) then some (x + r.length, gh + 1 + rs.length, cells ++ (r ++ rs.flatten).map fun b => (b.toNat : Int)) else none
 | [], x, gw, gh, cells, r, rs, h => by
  obtain ⟨rfl, rfl⟩ := List.cons.inj (show [[]] = r :: rs from h)
  rw [scanT]
  by_cases q : x = 0 ∨ (0 < gh ∧ x ≠ gw)
  ·rw [if_pos q, if_neg (by simp; omega)]
  ·rw [if_neg q, if_pos ⟨rfl, by simp, by simp; omega, by simp; omega⟩]
   simp
 | c :: cs, x, gw, gh, cells, r, rs, h => by
  rw [rowsOf] at h
  rw [scanT]
  cases hr : rowsOf cs with
  | nil => exact absurd hr (rowsOf_ne _)
  | cons r2 rs2 =>
  rw [hr] at h
  by_cases hc : c = 47
  ·rw [if_pos hc] at h ⊢
   obtain ⟨rfl, rfl⟩ := List.cons.inj h
   by_cases q : x = 0 ∨ (0 < gh ∧ x ≠ gw)
   ·rw [if_pos q, if_neg (by rintro ⟨_, _, h3, h4⟩; simp at h3 h4; omega)]
   ·rw [if_neg q, scan_rows cs 0 x (gh + 1) cells r2 rs2 hr]
    by_cases p : r2.all okC = true ∧ (∀ q ∈ rs2, rowOk (0 + r2.length) q = true) ∧ 0 + r2.length ≠ 0 ∧ (gh + 1 = 0 ∨ 0 + r2.length = x)
    ·obtain ⟨p1, p2, p3, p4⟩ := p
     have e : r2.length = x := by omega
     rw [if_pos ⟨p1, p2, p3, p4⟩, if_pos ?_]
     ·rw [e]; simp [Nat.add_assoc]; omega
     ·refine ⟨rfl, ?_, by simp; omega, by simp; omega⟩
      intro q' hq'
      rcases List.mem_cons.1 hq' with rfl | hq'
      ·unfold rowOk; rw [p1, decide_eq_true (by simp; omega)]; rfl
      ·have := p2 q' hq'; rw [e, Nat.zero_add] at this; simpa using this
    ·rw [if_neg p, if_neg ?_]
     rintro ⟨_, h2, h3, h4⟩
     apply p
     have e := h2 r2 List.mem_cons_self
     unfold rowOk at e
     rw [Bool.and_eq_true, decide_eq_true_eq] at e
     simp only [List.length_nil, Nat.add_zero] at e h3 h4 h2
     refine ⟨e.2, fun q' hq' => ?_, by omega, by omega⟩
     have := h2 q' (List.mem_cons_of_mem _ hq')
     rw [Nat.zero_add, e.1]; exact this
  ·rw [if_neg hc] at h ⊢
   obtain ⟨rfl, rfl⟩ := List.cons.inj (show (c :: r2) :: rs2 = r :: rs from h)
   cases ho : okC c
   ·rw [if_neg (by simp), if_neg (by simp [ho])]
   ·rw [if_pos rfl, scan_rows cs (x + 1) gw gh _ r2 rs2 hr]
    have e : x + 1 + r2.length = x + (c :: r2).length := by simp; omega
    rw [e, List.all_cons, ho, Bool.true_and]
    simp
def nameI (c : Int) : Bool := decide (97 ≤ c) && decide (c ≤ 102)
def clash (cells : List Int) (i j : Nat) : Bool := rd cells i == rd cells j && nameI (rd cells i)
def noClash (cells : List Int) (i n : Nat) : Prop := ∀ i', i ≤ i' → i' < n → ∀ j, j < i' → clash cells i' j = false
def failR : Int × Int × List Int × Bool := (0, 0, [], false)
open Classical in
theorem dup_ev (w h : Int) (cells : List Int) (hl : cells.length ≤ 1000) : ∀ (m i : Nat), i + m = cells.length →
  Ev (fun k => Zar.l1 k cells (cells.length : Int) (i : Int) w h cells) (if noClash cells i cells.length then (w, h, cells, true) else failR) := by
 intro m
 induction m with
 | zero =>
  intro i hi
  refine Ev.shift (g := fun _ => some (if noClash cells i cells.length then (w, h, cells, true) else failR)) (Ev.const rfl) (fun k => ?_)
  simp only [Zar.l1]
  rw [if_neg (by omega), if_pos (by intro i' h1 h2; omega)]
 | succ m ih =>
  intro i hi
  have hlt : i < cells.length := by omega
  have htl : (cells.take i).length = i := by rw [List.length_take]; omega
  have inner : ∀ (m2 j : Nat), j + m2 = i → (∀ j', j' < j → clash cells i j' = false) → Ev (fun k => Zar.l2 k (rd cells i) cells (cells.length : Int) (i : Int) (cells.take i) (i : Int) (j : Int) w h cells) (if noClash cells i cells.length then (w, h, cells, true) else failR) := by
   intro m2
   induction m2 with
   | zero =>
    intro j hj hc
    have e : noClash cells i cells.length ↔ noClash cells (i + 1) cells.length := by
     constructor
     ·intro q i' h1 h2; exact q i' (by omega) h2
     ·intro q i' h1 h2 j' h3
      by_cases e : i' = i
      ·subst e; exact hc j' (by omega)
      ·exact q i' (by omega) h2 j' h3
    refine Ev.shift (g := fun k => Zar.l1 k cells (cells.length : Int) ((i + 1 : Nat) : Int) w h cells) ?_ (fun k => ?_)
    ·have := ih (i + 1) (by omega)
     by_cases q : noClash cells i cells.length
     ·rw [if_pos (e.1 q)] at this; rw [if_pos q]; exact this
     ·rw [if_neg (fun r => q (e.2 r))] at this; rw [if_neg q]; exact this
    ·simp only [Zar.l2]
     rw [if_neg (by omega), wrap_n i (by omega)]
   | succ m2 ih2 =>
    intro j hj hc
    have hjt : j < (cells.take i).length := by omega
    have hrd : rd (cells.take i) (j : Int) = rd cells j := by
     rw [rd_n _ j hjt, rd_n cells j (by omega), List.getElem_take]
    cases hcl : clash cells i j with
    | true =>
     have hn : ¬ noClash cells i cells.length := by
      intro q
      have := q i (by omega) hlt j (by omega)
      rw [hcl] at this; cases this
     rw [if_neg hn]
     refine Ev.shift (g := fun _ => some failR) (Ev.const rfl) (fun k => ?_)
     simp only [clash, nameI, Bool.and_eq_true, beq_iff_eq, decide_eq_true_eq] at hcl
     simp only [Zar.l2]
     rw [if_pos (by omega), if_pos (by omega), if_pos (by omega), hrd, if_pos hcl.1, if_pos (by omega), if_pos (by omega)]
     rfl
    | false =>
     refine Ev.shift (ih2 (j + 1) (by omega) (fun j' hj' => ?_)) (fun k => ?_)
     ·by_cases e : j' = j
      ·subst e; exact hcl
      ·exact hc j' (by omega)
     ·simp only [Zar.l2]
      rw [if_pos (by omega), if_pos (by omega), if_pos (by omega), hrd, wrap_n j (by omega)]
      simp only [clash, nameI] at hcl
      by_cases e1 : rd cells i = rd cells j
      ·rw [if_pos e1]
       by_cases e2 : rd cells i ≥ 97
       ·rw [if_pos e2]
        by_cases e3 : rd cells i ≤ 102
        ·exfalso
         rw [decide_eq_true e3, decide_eq_true (show (97 : Int) ≤ rd cells i from e2), beq_iff_eq.2 e1] at hcl
         simp at hcl
        ·rw [if_neg e3]
       ·rw [if_neg e2]
      ·rw [if_neg e1]
  refine Ev.shift (inner i 0 (by omega) (by omega)) (fun k => ?_)
  simp only [Zar.l1]
  rw [if_pos (by omega), if_pos (by omega), if_pos (by omega), if_pos (by omega), Option.bind_some, Int.toNat_natCast, htl]
  rfl
theorem count_clash (c : Int) : ∀ l : List Int, (∀ i, i < l.length → ∀ j, j < i → ¬ (rd l i = c ∧ rd l j = c)) ↔ l.count c ≤ 1
 | [] => by simp
 | a :: l => by
  have ih := count_clash c l
  have e1 : ∀ i : Nat, rd (a :: l) ((i + 1 : Nat) : Int) = rd l i := fun i => by simp [rd]
  have e0 : rd (a :: l) ((0 : Nat) : Int) = a := by simp [rd]
  by_cases h : a = c
  ·subst h
   rw [List.count_cons_self]
   constructor
   ·intro q
    have : l.count a = 0 := by
     rw [List.count_eq_zero]
     intro hm
     obtain ⟨n, hn, he⟩ := List.getElem_of_mem hm
     refine q (n + 1) (by simp; omega) 0 (by omega) ⟨?_, e0⟩
     rw [e1, rd_n l n hn, he]
    omega
   ·intro q i hi j hj
    have h0 : l.count a = 0 := by omega
    rw [List.count_eq_zero] at h0
    rintro ⟨h1, _⟩
    obtain ⟨n, rfl⟩ : ∃ n, i = n + 1 := ⟨i - 1, by omega⟩
    have hn : n < l.length := by simp at hi; omega
    rw [e1, rd_n l n hn] at h1
    exact h0 (h1 ▸ List.getElem_mem _)
  ·rw [List.count_cons_of_ne h, ← ih]
   constructor
   ·intro q i hi j hj
    have := q (i + 1) (by simp; omega) (j + 1) (by omega)
    rw [e1, e1] at this; exact this
   ·intro q i hi j hj
    rintro ⟨h1, h2⟩
    cases j with
    | zero => rw [e0] at h2; exact h h2
    | succ j =>
     obtain ⟨n, rfl⟩ : ∃ n, i = n + 1 := ⟨i - 1, by omega⟩
     rw [e1] at h1 h2
     exact q n (by simp at hi; omega) j (by omega) ⟨h1, h2⟩
theorem rowsOf_flat : ∀ l : List UInt8, (rowsOf l).flatten = l.filter fun c => c != 47
 | [] => rfl
 | c :: cs => by
  have ih := rowsOf_flat cs
  rw [rowsOf, List.filter_cons]
  by_cases hc : c = 47
  ·rw [if_pos hc]; simpa [hc] using ih
  ·rw [if_neg hc, if_pos (by simpa using hc), ← ih]
   cases hr : rowsOf cs with
   | nil => exact absurd hr (rowsOf_ne _)
   | cons r rs => simp [consH]
theorem cellsT_count (l : List UInt8) (c : UInt8) (hc : c ≠ 47) : (Za7 l).count (c.toNat : Int) = l.count c := by
 unfold Za7
 rw [rowsOf_flat]
 induction l with
 | nil => rfl
 | cons a l ih =>
  rw [List.filter_cons]
  by_cases ha : a = c
  ·subst ha
   rw [if_pos (by simpa using hc), List.map_cons, List.count_cons_self, List.count_cons_self, ih]
  ·rw [List.count_cons_of_ne ha]
   split
   ·rw [List.map_cons, List.count_cons_of_ne (by intro e; exact ha (UInt8.toNat_inj.1 (by omega))), ih]
   ·exact ih
theorem names_clash (l : List UInt8) : noClash (Za7 l) 0 (Za7 l).length ↔ namesOk l = true := by
 have e : namesOk l = true ↔ ∀ n : Nat, 97 ≤ n → n ≤ 102 → (Za7 l).count (n : Int) ≤ 1 := by
  unfold namesOk
  simp only [List.all_cons, List.all_nil, Bool.and_true, Bool.and_eq_true, decide_eq_true_eq]
  rw [← cellsT_count l 97 (by decide), ← cellsT_count l 98 (by decide), ← cellsT_count l 99 (by decide), ← cellsT_count l 100 (by decide), ← cellsT_count l 101 (by decide), ← cellsT_count l 102 (by decide)]
  constructor
  ·rintro ⟨h1, h2, h3, h4, h5, h6⟩ n ha hb
   have : n = 97 ∨ n = 98 ∨ n = 99 ∨ n = 100 ∨ n = 101 ∨ n = 102 := by omega
   rcases this with rfl | rfl | rfl | rfl | rfl | rfl
   ·exact h1
   ·exact h2
   ·exact h3
   ·exact h4
   ·exact h5
   ·exact h6
  ·intro h
   exact ⟨h 97 (by omega) (by omega), h 98 (by omega) (by omega), h 99 (by omega) (by omega), h 100 (by omega) (by omega), h 101 (by omega) (by omega), h 102 (by omega) (by omega)⟩
 rw [e]
 constructor
 ·intro q n ha hb
  rw [← count_clash]
  rintro i hi j hj ⟨h1, h2⟩
  have := q i (by omega) hi j hj
  simp [clash, nameI, h1, h2] at this
  omega
 ·intro q i' _ hi j hj
  cases hc : clash (Za7 l) i' j with
  | false => rfl
  | true =>
   exfalso
   simp only [clash, nameI, Bool.and_eq_true, beq_iff_eq, decide_eq_true_eq] at hc
   obtain ⟨n, hn⟩ : ∃ n : Nat, rd (Za7 l) i' = n := ⟨(rd (Za7 l) i').toNat, by omega⟩
   have := (count_clash (n : Int) (Za7 l)).2 (q n (by omega) (by omega)) i' hi j hj
   exact this ⟨hn, by rw [← hc.1, hn]⟩
theorem bt_n (t : ByteArray) (i : Nat) (h : i < t.data.toList.length) : bt t (i : Int) = (t.data.toList[i].toNat : Int) := by
 have hs : i < t.size := by rw [Lib.size_eq]; exact h
 unfold bt
 rw [dif_pos (by simpa using hs)]
 rfl
theorem tyIs_eq (c : UInt8) : spec_tyIs.f (c.toNat : Int) = some (okC c) := by
 unfold spec_tyIs.f okC
 rw [ball_spec]
 have e1 : ((c.toNat : Nat) : Int) = 35 ↔ c = 35 := by
  constructor
  ·intro h; exact UInt8.toNat_inj.1 (by show c.toNat = 35; omega)
  ·rintro rfl; rfl
 have e2 : ((c.toNat : Nat) : Int) = 46 ↔ c = 46 := by
  constructor
  ·intro h; exact UInt8.toNat_inj.1 (by show c.toNat = 46; omega)
  ·rintro rfl; rfl
 by_cases h1 : c = 35
 ·rw [if_pos (e1.2 h1)]; simp [h1]
 ·rw [if_neg (fun q => h1 (e1.1 q))]
  by_cases h2 : c = 46
  ·rw [if_pos (e2.2 h2)]; simp [h2]
  ·rw [if_neg (fun q => h2 (e2.1 q))]; simp [h1, h2]
theorem scan_ev (t : ByteArray) (hsz : t.data.toList.length ≤ 42) (R : Int × Int × List Int × Bool) : ∀ (rest : List UInt8) (i x gw gh : Nat) (cells : List Int), t.data.toList.drop i = rest → i + rest.length = t.data.toList.length → x ≤ i → gh ≤ i → cells.length ≤ i →
  (∀ w h cs, scanT x gw gh cells rest = some (w, h, cs) → Ev (fun k => Zar.l0 k t 0 ((t.data.toList.length + 1 : Nat) : Int) w h cs) R) → (scanT x gw gh cells rest = none → R = failR) →
  Ev (fun k => Zar.l0 k t (x : Int) (i : Int) (gw : Int) (gh : Int) cells) R := by
 have hts : t.size = t.data.toList.length := Lib.size_eq t
 have slash : ∀ (i x gw gh : Nat) (cells : List Int), i ≤ 42 → x ≤ i → gh ≤ i → (¬ (x = 0 ∨ (0 < gh ∧ x ≠ gw)) → Ev (fun k => Zar.l0 k t 0 ((i + 1 : Nat) : Int) (x : Int) ((gh + 1 : Nat) : Int) cells) R) → (x = 0 ∨ (0 < gh ∧ x ≠ gw) → R = failR) →
   Ev (fun k => Zar.j1 k t (x : Int) (i : Int) false (gw : Int) (gh : Int) cells) R := by
  intro i x gw gh cells hi hx hg h1 h2
  by_cases q : x = 0 ∨ (0 < gh ∧ x ≠ gw)
  ·rw [h2 q]
   refine Ev.shift (g := fun _ => some failR) (Ev.const rfl) (fun k => ?_)
   simp only [Zar.j1]
   rw [if_neg (by simp)]
   by_cases p : (gh : Int) > 0
   ·rw [if_pos p]
    by_cases p2 : (x : Int) = (gw : Int)
    ·rw [if_pos p2, if_pos (by omega)]; rfl
    ·rw [if_neg p2]; rfl
   ·rw [if_neg p, if_pos (by omega)]; rfl
  ·refine Ev.shift (h1 q) (fun k => ?_)
   simp only [Zar.j1]
   rw [if_neg (by simp), wrap_n i (by omega), wrap_n gh (by omega)]
   by_cases p : (gh : Int) > 0
   ·rw [if_pos p, if_pos (by omega), if_neg (by omega)]
   ·rw [if_neg p, if_neg (by omega)]
 intro rest
 induction rest with
 | nil =>
  intro i x gw gh cells hd hi hx hg hc h1 h2
  have e : i = t.data.toList.length := by simpa using hi
  rw [scanT] at h1 h2
  refine Ev.shift (slash i x gw gh cells (by omega) hx hg (fun q => ?_) (fun q => h2 (by rw [if_pos q]))) (fun k => ?_)
  ·have := h1 x (gh + 1) cells (by rw [if_neg q])
   rw [e]; exact this
  ·simp only [Zar.l0]
   rw [if_pos (by omega), if_neg (by omega)]
 | cons c cs ih =>
  intro i x gw gh cells hd hi hx hg hc h1 h2
  have hlt : i < t.data.toList.length := by simp at hi; omega
  rw [drop_cons _ i hlt] at hd
  obtain ⟨rfl, hd2⟩ := List.cons.inj hd
  have hb := bt_n t i hlt
  rw [scanT] at h1 h2
  by_cases h47 : t.data.toList[i] = 47
  ·rw [if_pos h47] at h1 h2
   refine Ev.shift (slash i x gw gh cells (by omega) hx hg (fun q => ?_) (fun q => h2 (by rw [if_pos q]))) (fun k => ?_)
   ·rw [if_neg q] at h1 h2
    exact ih (i + 1) 0 x (gh + 1) cells hd2 (by simp at hi; omega) (by omega) (by omega) (by omega) h1 h2
   ·simp only [Zar.l0]
    rw [if_pos (by omega), if_pos (by omega), if_pos (by omega), hb, h47]
    rfl
  ·rw [if_neg h47] at h1 h2
   have hne : ((t.data.toList[i].toNat : Int) != 47) = true := by
    rw [bne_iff_ne]
    intro q
    exact h47 (UInt8.toNat_inj.1 (by show t.data.toList[i].toNat = 47; omega))
   refine Ev.shift (g := fun k => Zar.j1 k t (x : Int) (i : Int) true (gw : Int) (gh : Int) cells) ?_ (fun k => ?_)
   ·cases ho : okC t.data.toList[i] with
    | false =>
     rw [ho, if_neg (by simp)] at h2
     rw [h2 rfl]
     refine Ev.shift (g := fun _ => some failR) (Ev.const rfl) (fun k => ?_)
     simp only [Zar.j1]
     rw [if_pos trivial, if_pos (by omega), if_pos (by omega), hb, tyIs_eq, ho]
     rfl
    | true =>
     rw [ho, if_pos rfl] at h1 h2
     refine Ev.shift (ih (i + 1) (x + 1) gw gh (cells ++ [(t.data.toList[i].toNat : Int)]) hd2 (by simp at hi; omega) (by omega) (by omega) (by simp; omega) h1 h2) (fun k => ?_)
     simp only [Zar.j1]
     rw [if_pos trivial, if_pos (by omega), if_pos (by omega), hb, tyIs_eq, ho, Option.bind_some, if_pos rfl, if_pos (show cells.length < 140737488355328 by omega), wrap_n x (by omega), wrap_n i (by omega)]
   ·simp only [Zar.l0]
    rw [if_pos (by omega), if_pos (by omega), if_pos (by omega), hb, hne]
theorem len_rows : ∀ l : List UInt8, l.length + 1 = (rowsOf l).flatten.length + (rowsOf l).length
 | [] => rfl
 | c :: cs => by
  have ih := len_rows cs
  rw [rowsOf]
  split
  ·simp only [List.flatten_cons, List.nil_append, List.length_cons]; omega
  ·cases hr : rowsOf cs with
   | nil => exact absurd hr (rowsOf_ne _)
   | cons r rs =>
    rw [hr] at ih
    simp only [consH, List.flatten_cons, List.length_append, List.length_cons] at ih ⊢
    omega
theorem flat_len (w : Nat) : ∀ L : List (List UInt8), (∀ r ∈ L, r.length = w) → L.flatten.length = w * L.length
 | [], _ => by simp
 | r :: L, h => by
  have h1 := flat_len w L (fun r hr => h r (List.mem_cons_of_mem _ hr))
  have h2 := h r List.mem_cons_self
  rw [List.flatten_cons, List.length_append, h1, h2, List.length_cons, Nat.mul_succ]; omega
structure TrayT (l : List UInt8) : Prop where
 w0 : 0 < widthT l
 w7 : widthT l ≤ 7
 h0 : 0 < heightT l
 h7 : heightT l ≤ 7
 wh : widthT l * heightT l ≤ 36
 rows : ∀ r ∈ rowsOf l, r.length = widthT l ∧ r.all okC = true
 names : namesOk l = true
 len : (Za7 l).length = widthT l * heightT l
 size : l.length ≤ 42
theorem okT_tray (l : List UInt8) (h : okT l = true) : TrayT l := by
 unfold okT sizeOk at h
 simp only [Bool.and_eq_true, decide_eq_true_eq, List.all_eq_true] at h
 obtain ⟨⟨⟨⟨⟨⟨h1, h2⟩, h3⟩, h4⟩, h5⟩, h6⟩, h7⟩ := h
 have hr : ∀ r ∈ rowsOf l, r.length = widthT l ∧ r.all okC = true := by
  intro r hr
  have := h6 r hr
  unfold rowOk at this
  rw [Bool.and_eq_true, decide_eq_true_eq] at this
  exact this
 have hf := flat_len (widthT l) (rowsOf l) (fun r q => (hr r q).1)
 have hlen : (Za7 l).length = widthT l * heightT l := by unfold Za7 heightT; rw [List.length_map, hf]
 have hl := len_rows l
 refine ⟨by omega, h2, by omega, h4, h5, hr, h7, hlen, ?_⟩
 have : (rowsOf l).length = heightT l := rfl
 have e : (rowsOf l).flatten.length = widthT l * heightT l := hf
 omega
theorem tyRead_ev (t : ByteArray) (ht : t.size < 4294967290) : Ev (fun k => Zar.f k t) (if okT t.data.toList = true then ((widthT t.data.toList : Nat), (heightT t.data.toList : Nat), Za7 t.data.toList, true) else failR) := by
 have hts : t.size = t.data.toList.length := Lib.size_eq t
 by_cases hs : t.data.toList.length ≤ 42
 ·refine Ev.congr (g := fun k => Zar.l0 k t ((0 : Nat) : Int) ((0 : Nat) : Int) ((0 : Nat) : Int) ((0 : Nat) : Int) []) ?_ (fun k => ?_)
  ·cases hr : rowsOf t.data.toList with
   | nil => exact absurd hr (rowsOf_ne _)
   | cons r rs =>
   have hsc := scan_rows t.data.toList 0 0 0 [] r rs hr
   have hw : widthT t.data.toList = r.length := by unfold widthT; rw [hr]; rfl
   have hh : heightT t.data.toList = rs.length + 1 := by unfold heightT; rw [hr]; rfl
   have hok : okT t.data.toList = (sizeOk r.length (rs.length + 1) && (rowOk r.length r && rs.all (rowOk r.length)) && namesOk t.data.toList) := by
    unfold okT; rw [hw, hh, hr, List.all_cons]
   have hself : rowOk r.length r = r.all okC := by unfold rowOk; rw [decide_eq_true rfl]; rfl
   refine scan_ev t hs _ t.data.toList 0 0 0 0 [] rfl (by omega) (by omega) (by omega) (by simp) ?_ ?_
   ·intro w h cs he
    rw [hsc] at he
    split at he
    ·rename_i hg
     obtain ⟨g1, g2, g3, _⟩ := hg
     have hcs : Za7 t.data.toList = (r ++ rs.flatten).map fun b => (b.toNat : Int) := by unfold Za7; rw [hr, List.flatten_cons]
     rw [← hcs] at he
     simp only [Option.some.injEq, Prod.mk.injEq, Nat.zero_add, List.nil_append] at he
     obtain ⟨rfl, rfl, rfl⟩ := he
     have g2' : rs.all (rowOk r.length) = true := by
      rw [List.all_eq_true]; intro q hq; have := g2 q hq; rwa [Nat.zero_add] at this
     have hclen : (Za7 t.data.toList).length = r.length * (rs.length + 1) := by
      rw [hcs, List.length_map, List.length_append, flat_len r.length rs, Nat.mul_succ, Nat.add_comm]
      intro q hq
      have := List.all_eq_true.1 g2' q hq
      unfold rowOk at this
      rw [Bool.and_eq_true, decide_eq_true_eq] at this
      exact this.1
     have hcl2 : (Za7 t.data.toList).length ≤ 1000 := by
      have h1 : (Za7 t.data.toList).length ≤ t.data.toList.length := by
       unfold Za7; rw [List.length_map, rowsOf_flat]; exact List.length_filter_le _ _
      omega
     rw [hok, hself, g1, g2', Bool.and_self, Bool.and_true]
     have fin : ∀ b : Bool, (b = false → Ev (fun k => Zar.l1 k (Za7 t.data.toList) ((Za7 t.data.toList).length : Int) 0 (r.length : Int) ((1 + rs.length : Nat) : Int) (Za7 t.data.toList)) (if (sizeOk r.length (rs.length + 1) && namesOk t.data.toList) = true then ((widthT t.data.toList : Nat), (heightT t.data.toList : Nat), Za7 t.data.toList, true) else failR)) →
       (b = true → sizeOk r.length (rs.length + 1) = false) → Ev (fun k => Zar.j2 k b (r.length : Int) ((1 + rs.length : Nat) : Int) (Za7 t.data.toList)) (if (sizeOk r.length (rs.length + 1) && namesOk t.data.toList) = true then ((widthT t.data.toList : Nat), (heightT t.data.toList : Nat), Za7 t.data.toList, true) else failR) := by
      intro b h1 h2
      cases b
      ·refine Ev.shift (h1 rfl) (fun k => ?_)
       simp only [Zar.j2]
       rw [if_neg (by simp)]
      ·rw [h2 rfl, Bool.false_and, if_neg (by simp)]
       refine Ev.shift (g := fun _ => some failR) (Ev.const rfl) (fun k => ?_)
       simp only [Zar.j2]
       rfl
     have bad : ¬ (r.length ≤ 7 ∧ rs.length + 1 ≤ 7 ∧ (Za7 t.data.toList).length ≤ 36) → sizeOk r.length (rs.length + 1) = false := by
      intro q
      cases hz : sizeOk r.length (rs.length + 1) with
      | false => rfl
      | true =>
       exfalso
       unfold sizeOk at hz
       simp only [Bool.and_eq_true, decide_eq_true_eq] at hz
       exact q ⟨hz.1.1.1.2, hz.1.2, by rw [hclen]; exact hz.2⟩
     by_cases c1 : r.length ≤ 7
     ·by_cases c2 : rs.length + 1 ≤ 7
      ·refine Ev.shift (fin (decide (((Za7 t.data.toList).length : Int) > 36)) (fun q => ?_) (fun q => bad (by simp at q; omega))) (fun k => ?_)
       ·have c3 : (Za7 t.data.toList).length ≤ 36 := by simp at q; omega
        have hz : sizeOk r.length (rs.length + 1) = true := by
         unfold sizeOk
         simp only [Bool.and_eq_true, decide_eq_true_eq]
         exact ⟨⟨⟨⟨by omega, c1⟩, by omega⟩, c2⟩, by rw [← hclen]; exact c3⟩
        have hd := dup_ev (r.length : Int) ((1 + rs.length : Nat) : Int) (Za7 t.data.toList) hcl2 (Za7 t.data.toList).length 0 (by omega)
        rw [hz, Bool.true_and]
        by_cases hn : namesOk t.data.toList = true
        ·rw [if_pos ((names_clash _).2 hn)] at hd
         rw [if_pos hn, hw, hh, Nat.add_comm rs.length 1]
         exact hd
        ·rw [if_neg (fun q => hn ((names_clash _).1 q))] at hd
         rw [if_neg hn]
         exact hd
       ·simp only [Zar.l0]
        rw [if_neg (by omega), if_neg (by omega), if_neg (by omega)]
      ·refine Ev.shift (fin true (fun q => by cases q) (fun _ => bad (by omega))) (fun k => ?_)
       simp only [Zar.l0]
       rw [if_neg (by omega), if_neg (by omega), if_pos (by omega)]
     ·refine Ev.shift (fin true (fun q => by cases q) (fun _ => bad (by omega))) (fun k => ?_)
      simp only [Zar.l0]
      rw [if_neg (by omega), if_pos (by omega)]
    ·cases he
   ·intro hn
    rw [hsc] at hn
    split at hn
    ·cases hn
    ·rename_i hg
     rw [if_neg ?_]
     intro hk
     have T := okT_tray _ hk
     apply hg
     have hr0 := T.rows r (by rw [hr]; exact List.mem_cons_self)
     refine ⟨hr0.2, fun q hq => ?_, by have := T.w0; omega, Or.inl rfl⟩
     have := T.rows q (by rw [hr]; exact List.mem_cons_of_mem _ hq)
     unfold rowOk
     rw [this.2, Nat.zero_add, ← hw, decide_eq_true this.1]; rfl
  ·unfold Zar.f
   rw [if_neg (by omega)]
   rfl
 ·have hn : ¬ okT t.data.toList = true := fun q => hs (okT_tray _ q).size
  rw [if_neg hn]
  refine Ev.congr (g := fun _ => some failR) (Ev.const rfl) (fun k => ?_)
  unfold Zar.f
  rw [if_pos (by omega)]
  rfl
def goodB (c : UInt8) : Bool := decide (0 ≤ dirIx c)
theorem goodB_iff (c : UInt8) : goodB c = true ↔ goodD c := by
 rw [goodD_ix]; simp [goodB]
theorem goodB_cut (c : UInt8) : ([117, 114, 100, 108] : List UInt8).contains c = goodB c := by
 rw [Bool.eq_iff_iff, goodB_iff]
 unfold goodD
 simp
def dirsOk (l : List UInt8) : Bool := l.all goodB && decide l.Nodup
theorem good_len : ∀ l : List UInt8, l.all goodB = true → l.length = l.count 117 + l.count 114 + l.count 100 + l.count 108
 | [], _ => rfl
 | c :: cs, h => by
  rw [List.all_cons, Bool.and_eq_true] at h
  have ih := good_len cs h.2
  rcases (goodB_iff c).1 h.1 with rfl | rfl | rfl | rfl <;> simp [List.count_cons, ih] <;> omega
theorem dirsOk_len (l : List UInt8) (h : dirsOk l = true) : l.length ≤ 4 := by
 unfold dirsOk at h
 rw [Bool.and_eq_true, decide_eq_true_eq] at h
 have h1 := good_len l h.1
 have h2 := List.nodup_iff_count.1 h.2
 have := h2 117
 have := h2 114
 have := h2 100
 have := h2 108
 omega
theorem nodup_at (l : List UInt8) : l.Nodup ↔ ∀ i (hi : i < l.length), ∀ j (hj : j < i), l[i] ≠ l[j] := by
 unfold List.Nodup
 rw [List.pairwise_iff_getElem]
 constructor
 ·intro h i hi j hj e
  exact h j i (by omega) hi hj e.symm
 ·intro h i j hi hj hij e
  exact h j hj i hij e.symm
def dirAt (l : List UInt8) (i : Nat) : Prop := ∀ i', i ≤ i' → ∀ hi : i' < l.length, goodB l[i'] = true ∧ ∀ j (hj : j < i'), l[i'] ≠ l[j]
theorem dirAt_zero (l : List UInt8) : dirAt l 0 ↔ dirsOk l = true := by
 unfold dirsOk
 rw [Bool.and_eq_true, decide_eq_true_eq, nodup_at, List.all_eq_true]
 constructor
 ·intro h
  refine ⟨fun c hc => ?_, fun i hi j hj => (h i (by omega) hi).2 j hj⟩
  obtain ⟨n, hn, rfl⟩ := List.getElem_of_mem hc
  exact (h n (by omega) hn).1
 ·rintro ⟨h1, h2⟩ i _ hi
  exact ⟨h1 _ (List.getElem_mem _), h2 i hi⟩
theorem dirAt_step (l : List UInt8) (i : Nat) (hi : i < l.length) : dirAt l i ↔ (goodB l[i] = true ∧ ∀ j (hj : j < i), l[i] ≠ l[j]) ∧ dirAt l (i + 1) := by
 constructor
 ·intro h
  exact ⟨h i (Nat.le_refl _) hi, fun i' h1 h2 => h i' (by omega) h2⟩
 ·rintro ⟨h1, h2⟩ i' h3 h4
  by_cases e : i' = i
  ·subst e; exact h1
  ·exact h2 i' (by omega) h4
open Classical in
theorem cnDirs_ev (t : ByteArray) (ht : t.size < 4294967290) : Ev (fun k => Za8.f k t) (dirsOk t.data.toList) := by
 have hts : t.size = t.data.toList.length := Lib.size_eq t
 have main : ∀ (m i : Nat), i + m = t.data.toList.length → Ev (fun k => Za8.l0 k t (i : Int)) (decide (dirAt t.data.toList i)) := by
  intro m
  induction m with
  | zero =>
   intro i hi
   refine Ev.shift (g := fun _ => some true) ?_ (fun k => ?_)
   ·rw [decide_eq_true (show dirAt t.data.toList i from fun i' h1 h2 => by omega)]; exact Ev.const rfl
   ·simp only [Za8.l0]
    rw [if_neg (by omega)]
  | succ m ih =>
   intro i hi
   have hlt : i < t.data.toList.length := by omega
   have st := dirAt_step t.data.toList i hlt
   have inner : ∀ (m2 j : Nat), j + m2 = i → goodB t.data.toList[i] = true → (∀ j' (hj' : j' < i), j' < j → t.data.toList[i] ≠ t.data.toList[j']) → Ev (fun k => Za8.l1 k t (i : Int) (j : Int)) (decide (dirAt t.data.toList i)) := by
    intro m2
    induction m2 with
    | zero =>
     intro j hj hg hne
     have e : decide (dirAt t.data.toList i) = decide (dirAt t.data.toList (i + 1)) := by
      rw [decide_eq_decide, st]
      exact ⟨fun q => q.2, fun q => ⟨⟨hg, fun j' hj' => hne j' hj' (by omega)⟩, q⟩⟩
     rw [e]
     refine Ev.shift (ih (i + 1) (by omega)) (fun k => ?_)
     simp only [Za8.l1]
     rw [if_neg (by omega), wrap_n i (by omega)]
    | succ m2 ih2 =>
     intro j hj hg hne
     have hjl : j < t.data.toList.length := by omega
     by_cases e : t.data.toList[i] = t.data.toList[j]
     ·refine Ev.shift (g := fun _ => some false) ?_ (fun k => ?_)
      ·rw [decide_eq_false (fun q => ((st.1 q).1.2 j (by omega)) e)]; exact Ev.const rfl
      ·simp only [Za8.l1]
       rw [if_pos (by omega), if_pos (by omega), if_pos (by omega), if_pos (by omega), if_pos (by omega), bt_n t i hlt, bt_n t j hjl, if_pos (by rw [e])]
     ·refine Ev.shift (ih2 (j + 1) (by omega) hg (fun j' hj' hjj => ?_)) (fun k => ?_)
      ·by_cases q : j' = j
       ·subst q; exact e
       ·exact hne j' hj' (by omega)
      ·simp only [Za8.l1]
       rw [if_pos (by omega), if_pos (by omega), if_pos (by omega), if_pos (by omega), if_pos (by omega), bt_n t i hlt, bt_n t j hjl, if_neg (fun q => e (UInt8.toNat_inj.1 (by omega))), wrap_n j (by omega)]
   refine Ev.shift (g := fun k => (spec_tiDir.f k ⟨#[t.data.toList[i]]⟩).bind fun d => if d < 0 then some false else Za8.l1 k t (i : Int) 0) (Ev.bind (tiDir_ev _) ?_) (fun k => ?_)
   ·by_cases hg : 0 ≤ dirIx t.data.toList[i]
    ·refine Ev.congr (inner i 0 (by omega) (by simpa [goodB] using hg) (by omega)) (fun k => ?_)
     show (if dirIx t.data.toList[i] < 0 then some false else Za8.l1 k t (i : Int) 0) = _
     rw [if_neg (by omega)]
     rfl
    ·refine Ev.congr (g := fun _ => some false) ?_ (fun k => if_pos (by omega))
     rw [decide_eq_false (fun q => hg (by simpa [goodB] using (st.1 q).1.1))]; exact Ev.const rfl
   ·simp only [Za8.l0]
    rw [if_pos (by omega), if_pos (by omega), wrap_n i (by omega), if_pos (by omega), if_pos (by omega), Int.toNat_natCast, Int.toNat_natCast, cut_one t i hlt]
 have e : dirsOk t.data.toList = decide (dirAt t.data.toList 0) := by
  rw [Bool.eq_iff_iff, decide_eq_true_eq, dirAt_zero]
 rw [e]
 exact main t.data.toList.length 0 (by omega)
def wordOk (l : List UInt8) : Bool := decide (l.length ≤ 40) && l.all goodB
theorem isWord_eq (t : ByteArray) (ht : t.size < 4294967290) : impl_IsWord.f t = some (wordOk t.data.toList) := by
 have hts : t.size = t.data.toList.length := Lib.size_eq t
 unfold impl_IsWord.f wordOk
 by_cases h : t.data.toList.length ≤ 40
 ·obtain ⟨tr, h1, h2⟩ := trim_eq t ⟨#[117, 114, 100, 108]⟩ (by omega) (by decide) (by decide)
  rw [if_pos (by omega), h1, Option.bind_some, decide_eq_true h, Bool.true_and]
  congr 1
  have e : t.data.toList.all (fun c => ([117, 114, 100, 108] : List UInt8).contains c) = t.data.toList.all goodB := by
   congr 1; funext c; exact goodB_cut c
  rw [← e, Bool.eq_iff_iff, beq_iff_eq]
  exact h2
 ·rw [if_neg (by omega), decide_eq_false h, Bool.false_and]
theorem areDirs_ev (t : ByteArray) (ht : t.size < 4294967290) : Ev (fun k => impl_areDirs.f k t) (dirsOk t.data.toList) := by
 have hts : t.size = t.data.toList.length := Lib.size_eq t
 have main : ∀ (m i : Nat), i + m = t.data.toList.length → Ev (fun k => impl_areDirs.l0 k t (t.size : Int) (i : Int)) ((t.data.toList.drop i).all (fun c => decide (t.data.toList.count c ≤ 1)) && wordOk t.data.toList) := by
  intro m
  induction m with
  | zero =>
   intro i hi
   refine Ev.shift (g := fun _ => some (wordOk t.data.toList)) (Ev.const ?_) (fun k => ?_)
   ·rw [List.drop_eq_nil_of_le (by omega), List.all_nil, Bool.true_and]
   ·simp only [impl_areDirs.l0]
    rw [if_neg (by omega), isWord_eq t ht, Option.bind_some]
  | succ m ih =>
   intro i hi
   have hlt : i < t.data.toList.length := by omega
   have hc : strings_Count.f t ⟨#[t.data.toList[i]]⟩ = some ((t.data.toList.count t.data.toList[i] : Nat) : Int) := by
    unfold strings_Count.f
    rw [if_pos (show (⟨#[t.data.toList[i]]⟩ : ByteArray).size = 1 from rfl)]
    rfl
   refine Ev.shift (g := fun k => if t.data.toList.count t.data.toList[i] ≤ 1 then impl_areDirs.l0 k t (t.size : Int) ((i + 1 : Nat) : Int) else some false) ?_ (fun k => ?_)
   ·rw [drop_cons _ i hlt, List.all_cons, Bool.and_assoc]
    by_cases q : t.data.toList.count t.data.toList[i] ≤ 1
    ·simp only [if_pos q, decide_eq_true q, Bool.true_and]; exact ih (i + 1) (by omega)
    ·simp only [if_neg q, decide_eq_false q, Bool.false_and]; exact Ev.const rfl
   ·simp only [impl_areDirs.l0]
    rw [if_pos (by omega), if_pos (by omega), wrap_n i (by omega), if_pos (by omega), if_pos (by omega), Int.toNat_natCast, Int.toNat_natCast, cut_one t i hlt, hc, Option.bind_some]
    by_cases q : t.data.toList.count t.data.toList[i] ≤ 1
    ·rw [if_neg (by omega), if_pos q]
    ·rw [if_pos (by omega), if_neg q]
 have e : dirsOk t.data.toList = ((t.data.toList.drop 0).all (fun c => decide (t.data.toList.count c ≤ 1)) && wordOk t.data.toList) := by
  rw [Bool.eq_iff_iff, List.drop_zero]
  constructor
  ·intro h
   have hl := dirsOk_len _ h
   unfold dirsOk at h
   rw [Bool.and_eq_true, decide_eq_true_eq] at h
   rw [Bool.and_eq_true, List.all_eq_true]
   refine ⟨fun c _ => decide_eq_true (List.nodup_iff_count.1 h.2 c), ?_⟩
   unfold wordOk
   rw [h.1, decide_eq_true (by omega)]; rfl
  ·intro h
   rw [Bool.and_eq_true, List.all_eq_true] at h
   unfold wordOk at h
   rw [Bool.and_eq_true] at h
   unfold dirsOk
   rw [h.2.2, Bool.true_and, decide_eq_true_eq]
   refine List.nodup_iff_count.2 (fun c => ?_)
   by_cases hc : c ∈ t.data.toList
   ·simpa using h.1 c hc
   ·rw [List.count_eq_zero.2 hc]; omega
 rw [e]
 exact main t.data.toList.length 0 (by omega)
def bareB (l : List UInt8) : Bool := okT l && l.all fun c => ([35, 46, 47] : List UInt8).contains c
theorem isEmptied_ev (t : ByteArray) (ht : t.size < 4294967290) : Ev (fun k => impl_isEmptied.f k t) (bareB t.data.toList) := by
 obtain ⟨tr, h1, h2⟩ := trim_eq t ⟨#[35, 46, 47]⟩ (by omega) (by decide) (by decide)
 refine Ev.bind (g := fun k t101 => if t101 = true then ((strings_Trim.f t (⟨#[35, 46, 47]⟩ : ByteArray)).bind fun t102 => (some (t102.toList == ([] : List UInt8)))) else (some false)) (IsTray_ev t ht) (Ev.const ?_)
 unfold bareB
 cases okT t.data.toList
 ·rfl
 ·rw [if_pos rfl, h1, Option.bind_some, Bool.true_and]
  congr 1
  rw [Bool.eq_iff_iff, beq_iff_eq]
  exact h2
theorem rd_mem (l : List Int) (j : Nat) (h : j < l.length) : rd l (j : Int) ∈ l := by rw [rd_n l j h]; exact List.getElem_mem _
theorem cellsT_mem (l : List UInt8) (x : Int) : x ∈ Za7 l ↔ ∃ c ∈ l, c ≠ 47 ∧ x = (c.toNat : Int) := by
 unfold Za7
 rw [rowsOf_flat]
 simp only [List.mem_map, List.mem_filter, bne_iff_ne, ne_eq]
 constructor
 ·rintro ⟨c, ⟨h1, h2⟩, rfl⟩; exact ⟨c, h1, h2, rfl⟩
 ·rintro ⟨c, h1, h2, rfl⟩; exact ⟨c, ⟨h1, h2⟩, rfl⟩
theorem okT_bytes (l : List UInt8) (h : okT l = true) : ∀ c ∈ l, c = 47 ∨ okC c = true := by
 intro c hc
 by_cases e : c = 47
 ·exact Or.inl e
 ·right
  have T := okT_tray l h
  have hm : c ∈ (rowsOf l).flatten := by rw [rowsOf_flat, List.mem_filter]; exact ⟨hc, by simpa using e⟩
  obtain ⟨r, hr, hcr⟩ := List.mem_flatten.1 hm
  exact List.all_eq_true.1 (T.rows r hr).2 c hcr
theorem bare_balls (l : List UInt8) (h : okT l = true) : bareB l = true ↔ ∀ x ∈ Za7 l, ballB x = false := by
 unfold bareB
 rw [h, Bool.true_and, List.all_eq_true]
 constructor
 ·intro q x hx
  obtain ⟨c, hc, h47, rfl⟩ := (cellsT_mem l x).1 hx
  have := q c hc
  simp only [List.contains_cons, List.contains_nil, Bool.or_false, Bool.or_eq_true, beq_iff_eq] at this
  rcases this with rfl | rfl | rfl
  ·decide
  ·decide
  ·exact absurd rfl h47
 ·intro q c hc
  rcases okT_bytes l h c hc with rfl | ho
  ·decide
  ·by_cases h47 : c = 47
   ·subst h47; decide
   ·have := q _ ((cellsT_mem l _).2 ⟨c, hc, h47, rfl⟩)
    unfold okC at ho
    rw [this, Bool.or_false] at ho
    simp only [Bool.or_eq_true, beq_iff_eq] at ho
    rcases ho with rfl | rfl <;> decide
theorem bare_cells (l : List UInt8) (h : bareB l = true) : ∀ x ∈ Za7 l, x = 35 ∨ x = 46 := by
 intro x hx
 obtain ⟨c, hc, h47, rfl⟩ := (cellsT_mem l x).1 hx
 unfold bareB at h
 rw [Bool.and_eq_true, List.all_eq_true] at h
 have := h.2 c hc
 simp only [List.contains_cons, List.contains_nil, Bool.or_false, Bool.or_eq_true, beq_iff_eq] at this
 rcases this with rfl | rfl | rfl
 ·exact Or.inl rfl
 ·exact Or.inr rfl
 ·exact absurd rfl h47
theorem bare_open (l : List UInt8) (h : bareB l = true) : openL (Za7 l) = (freeL (Za7 l)).map fun (j : Nat) => (j : Int) := by
 unfold openL freeL
 congr 1
 apply List.filter_congr
 intro j hj
 rcases bare_cells l h _ (rd_mem (Za7 l) j (List.mem_range.1 hj)) with e | e <;> rw [e] <;> rfl
def bareG (k : Nat) (b : Int × Int × List Int × Bool) : Option (Int × Int × List Int × Int × Bool) := if b.2.2.2 = true then ((Zbc.f k b.1 b.2.1 b.2.2.1).bind fun t109 => (Za2.j0 k (decide ((t109.length : Int) > 0)) b.1 b.2.1 b.2.2.1)) else (Za2.j0 k true b.1 b.2.1 b.2.2.1)
theorem cnBare_ev (t : ByteArray) (ht : t.size < 4294967290) : ∃ R : Int × Int × List Int × Int × Bool, Ev (fun k => Za2.f k t) R ∧
  (bareB t.data.toList = true → R = (((widthT t.data.toList : Nat) : Int), ((heightT t.data.toList : Nat) : Int), Za7 t.data.toList, (((freeL (Za7 t.data.toList)).length : Nat) : Int), true)) ∧ (bareB t.data.toList = false → R.2.2.2.2 = false) := by
 have hr := tyRead_ev t ht
 have j0t : ∀ w h cells, Ev (fun k => Za2.j0 k true w h cells) (w, h, cells, 0, false) := fun w h cells => by
  refine Ev.shift (g := fun _ => some (w, h, cells, 0, false)) (Ev.const rfl) (fun k => ?_)
  simp only [Za2.j0]
  rfl
 have bind : ∀ (b : Int × Int × List Int × Bool) (R : Int × Int × List Int × Int × Bool), Ev (fun k => Zar.f k t) b → Ev (fun k => bareG k b) R → Ev (fun k => Za2.f k t) R := fun b R h1 h2 => Ev.bind (g := bareG) h1 h2
 cases hok : okT t.data.toList with
 | false =>
  rw [hok, if_neg (by simp)] at hr
  refine ⟨(0, 0, [], 0, false), bind _ _ hr (j0t 0 0 []), ?_, fun _ => rfl⟩
  intro q; unfold bareB at q; rw [hok] at q; cases q
 | true =>
  rw [hok, if_pos rfl] at hr
  have T := okT_tray _ hok
  have hlen : (Za7 t.data.toList).length < 4294967296 := by
   have := T.len; have := T.wh; omega
  have hb := tyBalls_ev (widthT t.data.toList : Nat) (heightT t.data.toList : Nat) (Za7 t.data.toList) hlen
  have e : (((List.range (Za7 t.data.toList).length).filter fun (j : Nat) => ballB (rd (Za7 t.data.toList) (j : Int))).map fun (j : Nat) => (j : Int)).length = 0 ↔ bareB t.data.toList = true := by
   rw [bare_balls _ hok, List.length_map, List.length_eq_zero_iff, List.filter_eq_nil_iff]
   constructor
   ·intro q x hx
    obtain ⟨n, hn, rfl⟩ := List.getElem_of_mem hx
    have := q n (List.mem_range.2 hn)
    rw [rd_n _ n hn] at this
    simpa using this
   ·intro q n hn
    rw [q _ (rd_mem _ n (List.mem_range.1 hn))]; simp
  generalize ((List.range (Za7 t.data.toList).length).filter fun (j : Nat) => ballB (rd (Za7 t.data.toList) (j : Int))).map (fun (j : Nat) => (j : Int)) = B at hb e
  have go : ∀ R, Ev (fun k => Za2.j0 k (decide ((B.length : Int) > 0)) (widthT t.data.toList : Nat) (heightT t.data.toList : Nat) (Za7 t.data.toList)) R → Ev (fun k => Za2.f k t) R := by
   intro R hR
   refine bind _ _ hr ?_
   exact Ev.bind (g := fun k t109 => Za2.j0 k (decide ((t109.length : Int) > 0)) (widthT t.data.toList : Nat) (heightT t.data.toList : Nat) (Za7 t.data.toList)) hb hR
  by_cases hba : bareB t.data.toList = true
  ·have e0 := e.2 hba
   refine ⟨(((widthT t.data.toList : Nat) : Int), ((heightT t.data.toList : Nat) : Int), Za7 t.data.toList, (((freeL (Za7 t.data.toList)).length : Nat) : Int), true), go _ ?_, fun _ => rfl, fun q => by rw [hba] at q; cases q⟩
   refine Ev.shift (cnBare_l0_ev (widthT t.data.toList : Nat) (heightT t.data.toList : Nat) (Za7 t.data.toList) hlen) (fun k => ?_)
   simp only [Za2.j0]
   rw [decide_eq_false (by omega), if_neg (by simp)]
  ·have e0 : ¬ B.length = 0 := fun q => hba (e.1 q)
   refine ⟨(((widthT t.data.toList : Nat) : Int), ((heightT t.data.toList : Nat) : Int), Za7 t.data.toList, 0, false), go _ ?_, fun q => absurd q hba, fun _ => rfl⟩
   rw [decide_eq_true (by omega)]
   exact j0t _ _ _
def freeN (l : List UInt8) : Nat := (freeL (Za7 l)).length
def lookB (l : List UInt8) : Bool := bareB l && decide (freeN l ≤ 16)
def stillL (l d : List UInt8) : List ByteArray := (List.range (2 ^ freeN l)).flatMap fun s => addD (widthT l) (heightT l) d (fillS (freeL (Za7 l)) s (Za7 l))
def lookG (t : ByteArray) (k : Nat) (b : Int × Int × List Int × Int × Bool) : Option (Int × Int × List Int × Int × Bool) := if b.2.2.2.2 = true then (if b.2.2.2.1 ≤ 16 then ((Za8.f k t).bind fun t110 => (some (b.1, b.2.1, b.2.2.1, b.2.2.2.1, t110))) else (some (b.1, b.2.1, b.2.2.1, b.2.2.2.1, false))) else (some (b.1, b.2.1, b.2.2.1, b.2.2.2.1, false))
theorem cnLooked_ev (t d : ByteArray) (ht : t.size < 4294967290) (hd : d.size < 4294967290) : ∃ R : Int × Int × List Int × Int × Bool, Ev (fun k => spec_cnLooked.f k t d) R ∧
  ((lookB t.data.toList && dirsOk d.data.toList) = true → R = (((widthT t.data.toList : Nat) : Int), ((heightT t.data.toList : Nat) : Int), Za7 t.data.toList, ((freeN t.data.toList : Nat) : Int), true)) ∧ ((lookB t.data.toList && dirsOk d.data.toList) = false → R.2.2.2.2 = false) := by
 obtain ⟨B, h1, h2, h3⟩ := cnBare_ev t ht
 have go : ∀ R, Ev (fun k => lookG d k B) R → Ev (fun k => spec_cnLooked.f k t d) R := fun R h => Ev.bind (g := lookG d) h1 h
 unfold lookB
 by_cases hb : bareB t.data.toList = true
 ·have hB := h2 hb
  rw [hb, Bool.true_and]
  by_cases hn : freeN t.data.toList ≤ 16
  ·rw [decide_eq_true hn, Bool.true_and]
   refine ⟨(((widthT t.data.toList : Nat) : Int), ((heightT t.data.toList : Nat) : Int), Za7 t.data.toList, ((freeN t.data.toList : Nat) : Int), dirsOk d.data.toList), go _ ?_, fun q => by rw [q], fun q => q⟩
   refine Ev.congr (g := fun k => (Za8.f k d).bind fun t110 => (some (((widthT t.data.toList : Nat) : Int), ((heightT t.data.toList : Nat) : Int), Za7 t.data.toList, ((freeN t.data.toList : Nat) : Int), t110))) (Ev.bind (g := fun k t110 => some (((widthT t.data.toList : Nat) : Int), ((heightT t.data.toList : Nat) : Int), Za7 t.data.toList, ((freeN t.data.toList : Nat) : Int), t110)) (cnDirs_ev d hd) (Ev.const rfl)) (fun k => ?_)
   unfold lookG
   rw [hB]
   show (if ((freeN t.data.toList : Nat) : Int) ≤ 16 then _ else _) = _
   rw [if_pos (by omega)]
   rfl
  ·rw [decide_eq_false hn, Bool.false_and]
   refine ⟨(((widthT t.data.toList : Nat) : Int), ((heightT t.data.toList : Nat) : Int), Za7 t.data.toList, ((freeN t.data.toList : Nat) : Int), false), go _ (Ev.congr (g := fun k => some (((widthT t.data.toList : Nat) : Int), ((heightT t.data.toList : Nat) : Int), Za7 t.data.toList, ((freeN t.data.toList : Nat) : Int), false)) (Ev.const rfl) (fun k => ?_)), fun q => (by cases q), fun _ => rfl⟩
   unfold lookG
   rw [hB]
   show (if ((freeN t.data.toList : Nat) : Int) ≤ 16 then _ else _) = _
   rw [if_neg (by omega)]
   rfl
 ·have hb : bareB t.data.toList = false := by simpa using hb
  have hB := h3 hb
  rw [hb, Bool.false_and, Bool.false_and]
  refine ⟨(B.1, B.2.1, B.2.2.1, B.2.2.2.1, false), go _ (Ev.congr (g := fun k => some (B.1, B.2.1, B.2.2.1, B.2.2.2.1, false)) (Ev.const rfl) (fun k => ?_)), fun q => (by cases q), fun _ => rfl⟩
  unfold lookG
  rw [hB]
  rfl
theorem bare_ok (l : List UInt8) (h : bareB l = true) : okT l = true := by
 unfold bareB at h
 rw [Bool.and_eq_true] at h
 exact h.1
theorem openL_len (l : List UInt8) (h : bareB l = true) : (openL (Za7 l)).length = freeN l := by
 rw [bare_open l h, List.length_map]; rfl
theorem isLooked_ev (t : ByteArray) (ht : t.size < 4294967290) : Ev (fun k => impl_isLooked.f k t) (lookB t.data.toList) := by
 refine Ev.bind (g := fun k t101 => if t101 = true then ((impl_read.f k t).bind fun bt102 => ((Zan.f k bt102.1 bt102.2.1 bt102.2.2).bind fun t107 => (some (decide ((t107.length : Int) ≤ 16))))) else (some false)) (isEmptied_ev t ht) ?_
 unfold lookB
 cases hb : bareB t.data.toList with
 | false => exact Ev.const rfl
 | true =>
  have T := okT_tray _ (bare_ok _ hb)
  have hlen : (Za7 t.data.toList).length < 4294967296 := by
   have := T.len; have := T.wh; omega
  rw [Bool.true_and]
  have h2 : Ev (fun k => (Zan.f k (widthT t.data.toList : Nat) (heightT t.data.toList : Nat) (Za7 t.data.toList)).bind fun t107 => (some (decide ((t107.length : Int) ≤ 16)))) (decide (freeN t.data.toList ≤ 16)) := by
   refine Ev.bind (g := fun k t107 => some (decide ((t107.length : Int) ≤ 16))) (indices_ev _ _ _ hlen) (Ev.const ?_)
   rw [openL_len _ hb]
   congr 1
   rw [decide_eq_decide]; omega
  exact Ev.bind (g := fun k (bt102 : Int × Int × List Int) => (Zan.f k bt102.1 bt102.2.1 bt102.2.2).bind fun t107 => (some (decide ((t107.length : Int) ≤ 16)))) (read_ev t ht) h2
theorem stills_ev (t d : ByteArray) (ht : t.size < 4294967290) (hd : d.size < 4294967290) (hb : lookB t.data.toList = true) (ho : dirsOk d.data.toList = true) : Ev (fun k => impl_stills.f k t d) (sortS (stillL t.data.toList d.data.toList)) := by
 unfold lookB at hb
 rw [Bool.and_eq_true, decide_eq_true_eq] at hb
 have T := okT_tray _ (bare_ok _ hb.1)
 have hlen : (Za7 t.data.toList).length < 4294967296 := by
  have := T.len; have := T.wh; omega
 have hg : ∀ c ∈ d.data.toList, goodD c := by
  intro c hc
  unfold dirsOk at ho
  rw [Bool.and_eq_true, List.all_eq_true] at ho
  exact (goodB_iff c).1 (ho.1 c hc)
 have hol := openL_len _ hb.1
 have hp : 2 ^ freeN t.data.toList ≤ 65536 := Nat.pow_le_pow_right (by omega) hb.2
 have hN := stillsN_ev (widthT t.data.toList) (heightT t.data.toList) (Za7 t.data.toList) (openL (Za7 t.data.toList)) T.w0 T.h0 (by have := T.w7; omega) (by have := T.h7; omega) T.len d hg (2 ^ (openL (Za7 t.data.toList)).length)
 have eL : (List.range (2 ^ (openL (Za7 t.data.toList)).length)).flatMap (fun s => addD (widthT t.data.toList) (heightT t.data.toList) d.data.toList (fillJ (Za7 t.data.toList) (openL (Za7 t.data.toList)) s (openL (Za7 t.data.toList)).length)) = stillL t.data.toList d.data.toList := by
  rw [hol]
  unfold stillL
  congr 1
  funext s
  rw [fillS_eq, bare_open _ hb.1]
  rfl
 rw [eL] at hN
 have hlenL : (stillL t.data.toList d.data.toList).length ≤ 65536 := by
  have : ∀ L : List Nat, (L.flatMap fun s => addD (widthT t.data.toList) (heightT t.data.toList) d.data.toList (fillS (freeL (Za7 t.data.toList)) s (Za7 t.data.toList))).length ≤ L.length := by
   intro L
   induction L with
   | nil => simp
   | cons a L ih =>
    rw [List.flatMap_cons, List.length_append, List.length_cons]
    have : (addD (widthT t.data.toList) (heightT t.data.toList) d.data.toList (fillS (freeL (Za7 t.data.toList)) a (Za7 t.data.toList))).length ≤ 1 := by
     unfold addD; split <;> simp
    omega
  have := this (List.range (2 ^ freeN t.data.toList))
  rw [List.length_range] at this
  unfold stillL
  omega
 have hok : stillsOk (Za7 t.data.toList) (openL (Za7 t.data.toList)) d = true := by
  unfold stillsOk
  simp only [Bool.and_eq_true, decide_eq_true_eq, List.all_eq_true]
  refine ⟨⟨⟨by omega, fun x hx => ?_⟩, by have := T.len; have := T.wh; omega⟩, by omega⟩
  unfold openL at hx
  obtain ⟨n, hn, rfl⟩ := List.mem_map.1 hx
  have := List.mem_range.1 (List.mem_filter.1 hn).1
  omega
 have h3 : Ev (fun k => if stillsOk (Za7 t.data.toList) (openL (Za7 t.data.toList)) d = true then (stillsN k (widthT t.data.toList : Nat) (heightT t.data.toList : Nat) (Za7 t.data.toList) (openL (Za7 t.data.toList)) d (2 ^ (openL (Za7 t.data.toList)).length)).bind fun out => Za6.f out else none) (sortS (stillL t.data.toList d.data.toList)) := by
  refine Ev.congr (g := fun k => (stillsN k (widthT t.data.toList : Nat) (heightT t.data.toList : Nat) (Za7 t.data.toList) (openL (Za7 t.data.toList)) d (2 ^ (openL (Za7 t.data.toList)).length)).bind fun out => Za6.f out) ?_ (fun k => if_pos hok)
  refine Ev.bind (g := fun k out => Za6.f out) hN (Ev.const ?_)
  unfold Za6.f
  rw [if_pos (by omega)]
 have h2 : Ev (fun k => (Zan.f k (widthT t.data.toList : Nat) (heightT t.data.toList : Nat) (Za7 t.data.toList)).bind fun list => if stillsOk (Za7 t.data.toList) list d = true then (stillsN k (widthT t.data.toList : Nat) (heightT t.data.toList : Nat) (Za7 t.data.toList) list d (2 ^ list.length)).bind fun out => Za6.f out else none) (sortS (stillL t.data.toList d.data.toList)) :=
  Ev.bind (g := fun k list => if stillsOk (Za7 t.data.toList) list d = true then (stillsN k (widthT t.data.toList : Nat) (heightT t.data.toList : Nat) (Za7 t.data.toList) list d (2 ^ list.length)).bind fun out => Za6.f out else none) (indices_ev _ _ _ hlen) h3
 exact Ev.bind (g := fun k (r : Int × Int × List Int) => (Zan.f k r.1 r.2.1 r.2.2).bind fun list => if stillsOk r.2.2 list d = true then (stillsN k r.1 r.2.1 r.2.2 list d (2 ^ list.length)).bind fun out => Za6.f out else none) (read_ev t ht) h2
theorem sortS_length (l : List ByteArray) : (sortS l).length = l.length := by
 unfold sortS
 rw [List.length_map, List.length_mergeSort, List.length_map]
def countR (t d : List UInt8) : Int × Bool := if (lookB t && dirsOk d) = true then (((stillL t d).length : Int), true) else (0, false)
theorem impl_Count_ev (t d : ByteArray) (ht : t.size < 4294967290) (hd : d.size < 4294967290) : Ev (fun k => impl_CountCorner.f k t d) (countR t.data.toList d.data.toList) := by
 refine Ev.bind (g := fun k t101 => if t101 = true then ((impl_areDirs.f k d).bind fun t102 => (if t102 = true then ((impl_stills.f k t d).bind fun t103 => (some ((t103.length : Int), true))) else (some (0, false)))) else (some (0, false))) (isLooked_ev t ht) ?_
 unfold countR
 cases hl : lookB t.data.toList with
 | false => exact Ev.const rfl
 | true =>
  rw [Bool.true_and]
  refine Ev.bind (g := fun k t102 => if t102 = true then ((impl_stills.f k t d).bind fun t103 => (some ((t103.length : Int), true))) else (some (0, false))) (areDirs_ev d hd) ?_
  cases ho : dirsOk d.data.toList with
  | false => exact Ev.const rfl
  | true =>
   refine Ev.bind (g := fun k (t103 : List ByteArray) => some ((t103.length : Int), true)) (stills_ev t d ht hd hl ho) (Ev.const ?_)
   rw [sortS_length]; rfl
theorem spec_all_ev (t d : ByteArray) (ht : t.size < 4294967290) (hd : d.size < 4294967290) (h : (lookB t.data.toList && dirsOk d.data.toList) = true) :
  Ev (fun k => Zam.f k (widthT t.data.toList : Nat) (heightT t.data.toList : Nat) (Za7 t.data.toList) (freeN t.data.toList : Nat) d) (stillL t.data.toList d.data.toList) := by
 rw [Bool.and_eq_true] at h
 obtain ⟨hb, ho⟩ := h
 have hdl := dirsOk_len _ ho
 unfold lookB at hb
 rw [Bool.and_eq_true, decide_eq_true_eq] at hb
 have T := okT_tray _ (bare_ok _ hb.1)
 refine allStill_ev _ _ _ _ hb.2 T.w0 T.h0 T.w7 T.h7 T.len d (by rw [Lib.size_eq]; omega) ?_
 intro c hc
 unfold dirsOk at ho
 rw [Bool.and_eq_true, List.all_eq_true] at ho
 exact (goodB_iff c).1 (ho.1 c hc)
theorem spec_Count_ev (t d : ByteArray) (ht : t.size < 4294967290) (hd : d.size < 4294967290) : Ev (fun k => spec_CountCorner.f k t d) (countR t.data.toList d.data.toList) := by
 obtain ⟨R, h1, h2, h3⟩ := cnLooked_ev t d ht hd
 refine Ev.bind (g := fun k (bt101 : Int × Int × List Int × Int × Bool) => if bt101.2.2.2.2 = true then ((Zam.f k bt101.1 bt101.2.1 bt101.2.2.1 bt101.2.2.2.1 d).bind fun t109 => (some ((t109.length : Int), true))) else (some (0, false))) h1 ?_
 unfold countR
 by_cases h : (lookB t.data.toList && dirsOk d.data.toList) = true
 ·rw [h2 h, if_pos h]
  exact Ev.bind (g := fun k (t109 : List ByteArray) => some ((t109.length : Int), true)) (spec_all_ev t d ht hd h) (Ev.const rfl)
 ·rw [if_neg h]
  refine Ev.congr (g := fun k => some (0, false)) (Ev.const rfl) (fun k => ?_)
  rw [if_neg]
  rw [h3 (by simpa using h)]
  simp
theorem countCorner_pure : laws_FnExactCountCorner.Pure := by
 intro t d _ _
 by_cases h1 : (t.size : Int) > 1048576
 ·exact ⟨0, by unfold laws_FnExactCountCorner.f; rw [if_pos h1]⟩
 ·by_cases h2 : (d.size : Int) > 1048576
  ·exact ⟨0, by unfold laws_FnExactCountCorner.f; rw [if_neg h1, if_pos h2]⟩
  ·have e1 := spec_Count_ev t d (by omega) (by omega)
   have e2 := impl_Count_ev t d (by omega) (by omega)
   obtain ⟨k1, g1⟩ := e1
   obtain ⟨k2, g2⟩ := e2
   refine ⟨max k1 k2, ?_⟩
   unfold laws_FnExactCountCorner.f
   rw [if_neg h1, if_neg h2, show spec_CountCorner.f (max k1 k2) t d = _ from g1 _ (by omega), show impl_CountCorner.f (max k1 k2) t d = _ from g2 _ (by omega), Option.bind_some, Option.bind_some, if_pos rfl]
   simp
end Go.Proofs.YtjohcjkidoalkaaGreatDoor.Plain
namespace Go.Proofs.YtjohcjkidoalkaaGreatDoor
theorem fnExactCountCorner_holds : Rows.FnExactCountCornerCardSaid := fnExactCountCorner.carded Plain.countCorner_pure
end Go.Proofs.YtjohcjkidoalkaaGreatDoor
