/- The program's IsReversible returns what the reference's returns, for all arguments. No condition. -/
import Derived.Test.YtjohcjkidoalkaaGreatDoorIrJ
set_option linter.unusedVariables false
set_option linter.unusedSimpArgs false
namespace Go.Proofs.YtjohcjkidoalkaaGreatDoor.Plain
open Go.RowKit Go.Proofs.YtjohcjkidoalkaaGreatDoor.PA Go.PW.PrintWords Go.PW.PrintLast Go.PW.PrintMore
def scanT : Nat → Nat → Nat → List Int → List UInt8 → Option (Nat × Nat × List Int)
 | x, gw, gh, cells, [] => if x = 0 ∨ (0 < gh ∧ x ≠ gw) then none else some (x, gh + 1, cells)
 | x, gw, gh, cells, c :: cs => if c = 47 then (if x = 0 ∨ (0 < gh ∧ x ≠ gw) then none else scanT 0 x (gh + 1) cells cs) else if okC c = true then scanT (x + 1) gw gh (cells ++ [(c.toNat : Int)]) cs else none
theorem Zgr : ∀ (l : List UInt8) (x gw gh : Nat) (cells : List Int) (r : List UInt8) (rs : List (List UInt8)), Zbj l = r :: rs →
  scanT x gw gh cells l = if r.all okC = true ∧ (∀ q ∈ rs, rowOk (x + r.length) q = true) ∧ x + r.length ≠ 0 ∧ (gh = 0 ∨ x + r.length = gw) then some (x + r.length, gh + 1 + rs.length, cells ++ (r ++ rs.flatten).map fun b => (b.toNat : Int)) else none
 | [], x, gw, gh, cells, r, rs, h => by
  obtain ⟨rfl, rfl⟩ := List.cons.inj (show [[]] = r :: rs from h)
  rw [scanT]
  by_cases q : x = 0 ∨ (0 < gh ∧ x ≠ gw)
  ·rw [if_pos q, if_neg (by simp; omega)]
  ·rw [if_neg q, if_pos ⟨rfl, by simp, by simp; omega, by simp; omega⟩]
   simp
 | c :: cs, x, gw, gh, cells, r, rs, h => by
  rw [Zbj] at h
  rw [scanT]
  cases hr : Zbj cs with
  | nil => exact absurd hr (Zej _)
  | cons r2 rs2 =>
  rw [hr] at h
  by_cases hc : c = 47
  ·rw [if_pos hc] at h ⊢
   obtain ⟨rfl, rfl⟩ := List.cons.inj h
   by_cases q : x = 0 ∨ (0 < gh ∧ x ≠ gw)
   ·rw [if_pos q, if_neg (by rintro ⟨_, _, h3, h4⟩; simp at h3 h4; omega)]
   ·rw [if_neg q, Zgr cs 0 x (gh + 1) cells r2 rs2 hr]
    by_cases p : r2.all okC = true ∧ (∀ q ∈ rs2, rowOk (0 + r2.length) q = true) ∧ 0 + r2.length ≠ 0 ∧ (gh + 1 = 0 ∨ 0 + r2.length = x)
    ·obtain ⟨p1, p2, p3, p4⟩ := p
     have e : r2.length = x := by omega
     rw [if_pos ⟨p1, p2, p3, p4⟩, if_pos ?_]
     ·rw [e]; simp [Nat.add_assoc]; omega
     ·refine ⟨rfl, ?_, by simp; omega, by simp; omega⟩
      intro q' hq'
      rcases List.mem_cons.1 hq' with rfl | hq'
      ·unfold rowOk; rw [p1, decide_eq_true (by simp; omega)]; rfl
      ·have := p2 q' hq'; rw [e, Nat.zero_add] at this; simpa using this
    ·rw [if_neg p, if_neg ?_]
     rintro ⟨_, h2, h3, h4⟩
     apply p
     have e := h2 r2 List.mem_cons_self
     unfold rowOk at e
     rw [Bool.and_eq_true, decide_eq_true_eq] at e
     simp only [List.length_nil, Nat.add_zero] at e h3 h4 h2
     refine ⟨e.2, fun q' hq' => ?_, by omega, by omega⟩
     have := h2 q' (List.mem_cons_of_mem _ hq')
     rw [Nat.zero_add, e.1]; exact this
  ·rw [if_neg hc] at h ⊢
   obtain ⟨rfl, rfl⟩ := List.cons.inj (show (c :: r2) :: rs2 = r :: rs from h)
   cases ho : okC c
   ·rw [if_neg (by simp), if_neg (by simp [ho])]
   ·rw [if_pos rfl, Zgr cs (x + 1) gw gh _ r2 rs2 hr]
    have e : x + 1 + r2.length = x + (c :: r2).length := by simp; omega
    rw [e, List.all_cons, ho, Bool.true_and]
    simp
def nameI (c : Int) : Bool := decide (97 ≤ c) && decide (c ≤ 102)
def clash (cells : List Int) (i j : Nat) : Bool := rd cells i == rd cells j && nameI (rd cells i)
def Ze3 (cells : List Int) (i n : Nat) : Prop := ∀ i', i ≤ i' → i' < n → ∀ j, j < i' → clash cells i' j = false
def failR : Int × Int × List Int × Bool := (0, 0, [], false)
open Classical in
theorem dup_ev (w h : Int) (cells : List Int) (hl : cells.length ≤ 1000) : ∀ (m i : Nat), i + m = cells.length →
  Ev (fun k => Zaq.l1 k cells (cells.length : Int) (i : Int) w h cells) (if Ze3 cells i cells.length then (w, h, cells, true) else failR) := by
 intro m
 induction m with
 | zero =>
  intro i hi
  refine Ev.shift (g := fun _ => some (if Ze3 cells i cells.length then (w, h, cells, true) else failR)) (Ev.const rfl) (fun k => ?_)
  simp only [Zaq.l1]
  rw [if_neg (by omega), if_pos (by intro i' h1 h2; omega)]
 | succ m ih =>
  intro i hi
  have hlt : i < cells.length := by omega
  have htl : (cells.take i).length = i := by rw [List.length_take]; omega
  have inner : ∀ (m2 j : Nat), j + m2 = i → (∀ j', j' < j → clash cells i j' = false) → Ev (fun k => Zaq.l2 k (rd cells i) cells (cells.length : Int) (i : Int) (cells.take i) (i : Int) (j : Int) w h cells) (if Ze3 cells i cells.length then (w, h, cells, true) else failR) := by
   intro m2
   induction m2 with
   | zero =>
    intro j hj hc
    have e : Ze3 cells i cells.length ↔ Ze3 cells (i + 1) cells.length := by
     constructor
     ·intro q i' h1 h2; exact q i' (by omega) h2
     ·intro q i' h1 h2 j' h3
      by_cases e : i' = i
      ·subst e; exact hc j' (by omega)
      ·exact q i' (by omega) h2 j' h3
    refine Ev.shift (g := fun k => Zaq.l1 k cells (cells.length : Int) ((i + 1 : Nat) : Int) w h cells) ?_ (fun k => ?_)
    ·have := ih (i + 1) (by omega)
     by_cases q : Ze3 cells i cells.length
     ·rw [if_pos (e.1 q)] at this; rw [if_pos q]; exact this
     ·rw [if_neg (fun r => q (e.2 r))] at this; rw [if_neg q]; exact this
    ·simp only [Zaq.l2]
     rw [if_neg (by omega), Zc2 i (by omega)]
   | succ m2 ih2 =>
    intro j hj hc
    have hjt : j < (cells.take i).length := by omega
    have hrd : rd (cells.take i) (j : Int) = rd cells j := by
     rw [rd_n _ j hjt, rd_n cells j (by omega), List.getElem_take]
    cases hcl : clash cells i j with
    | true =>
     have hn : ¬ Ze3 cells i cells.length := by
      intro q
      have := q i (by omega) hlt j (by omega)
      rw [hcl] at this; cases this
     rw [if_neg hn]
     refine Ev.shift (g := fun _ => some failR) (Ev.const rfl) (fun k => ?_)
     simp only [clash, nameI, Bool.and_eq_true, beq_iff_eq, decide_eq_true_eq] at hcl
     simp only [Zaq.l2]
     rw [if_pos (by omega), if_pos (by omega), if_pos (by omega), hrd, if_pos hcl.1, if_pos (by omega), if_pos (by omega)]
     rfl
    | false =>
     refine Ev.shift (ih2 (j + 1) (by omega) (fun j' hj' => ?_)) (fun k => ?_)
     ·by_cases e : j' = j
      ·subst e; exact hcl
      ·exact hc j' (by omega)
     ·simp only [Zaq.l2]
      rw [if_pos (by omega), if_pos (by omega), if_pos (by omega), hrd, Zc2 j (by omega)]
      simp only [clash, nameI] at hcl
      by_cases e1 : rd cells i = rd cells j
      ·rw [if_pos e1]
       by_cases e2 : rd cells i ≥ 97
       ·rw [if_pos e2]
        by_cases e3 : rd cells i ≤ 102
        ·exfalso
         rw [decide_eq_true e3, decide_eq_true (show (97 : Int) ≤ rd cells i from e2), beq_iff_eq.2 e1] at hcl
         simp at hcl
        ·rw [if_neg e3]
       ·rw [if_neg e2]
      ·rw [if_neg e1]
  refine Ev.shift (inner i 0 (by omega) (by omega)) (fun k => ?_)
  simp only [Zaq.l1]
  rw [if_pos (by omega), if_pos (by omega), if_pos (by omega), if_pos (by omega), Option.bind_some, Int.toNat_natCast, htl]
  rfl
theorem Zfi (c : Int) : ∀ l : List Int, (∀ i, i < l.length → ∀ j, j < i → ¬ (rd l i = c ∧ rd l j = c)) ↔ l.count c ≤ 1
 | [] => by simp
 | a :: l => by
  have ih := Zfi c l
  have e1 : ∀ i : Nat, rd (a :: l) ((i + 1 : Nat) : Int) = rd l i := fun i => by simp [rd]
  have e0 : rd (a :: l) ((0 : Nat) : Int) = a := by simp [rd]
  by_cases h : a = c
  ·subst h
   rw [List.count_cons_self]
   constructor
   ·intro q
    have : l.count a = 0 := by
     rw [List.count_eq_zero]
     intro hm
     obtain ⟨n, hn, he⟩ := List.getElem_of_mem hm
     refine q (n + 1) (by simp; omega) 0 (by omega) ⟨?_, e0⟩
     rw [e1, rd_n l n hn, he]
    omega
   ·intro q i hi j hj
    have h0 : l.count a = 0 := by omega
    rw [List.count_eq_zero] at h0
    rintro ⟨h1, _⟩
    obtain ⟨n, rfl⟩ : ∃ n, i = n + 1 := ⟨i - 1, by omega⟩
    have hn : n < l.length := by simp at hi; omega
    rw [e1, rd_n l n hn] at h1
    exact h0 (h1 ▸ List.getElem_mem _)
  ·rw [List.count_cons_of_ne h, ← ih]
   constructor
   ·intro q i hi j hj
    have := q (i + 1) (by simp; omega) (j + 1) (by omega)
    rw [e1, e1] at this; exact this
   ·intro q i hi j hj
    rintro ⟨h1, h2⟩
    cases j with
    | zero => rw [e0] at h2; exact h h2
    | succ j =>
     obtain ⟨n, rfl⟩ : ∃ n, i = n + 1 := ⟨i - 1, by omega⟩
     rw [e1] at h1 h2
     exact q n (by simp at hi; omega) j (by omega) ⟨h1, h2⟩
theorem Zfd : ∀ l : List UInt8, (Zbj l).flatten = l.filter fun c => c != 47
 | [] => rfl
 | c :: cs => by
  have ih := Zfd cs
  rw [Zbj, List.filter_cons]
  by_cases hc : c = 47
  ·rw [if_pos hc]; simpa [hc] using ih
  ·rw [if_neg hc, if_pos (by simpa using hc), ← ih]
   cases hr : Zbj cs with
   | nil => exact absurd hr (Zej _)
   | cons r rs => simp [consH]
theorem Zdo (l : List UInt8) (c : UInt8) (hc : c ≠ 47) : (Zbv l).count (c.toNat : Int) = l.count c := by
 unfold Zbv
 rw [Zfd]
 induction l with
 | nil => rfl
 | cons a l ih =>
  rw [List.filter_cons]
  by_cases ha : a = c
  ·subst ha
   rw [if_pos (by simpa using hc), List.map_cons, List.count_cons_self, List.count_cons_self, ih]
  ·rw [List.count_cons_of_ne ha]
   split
   ·rw [List.map_cons, List.count_cons_of_ne (by intro e; exact ha (UInt8.toNat_inj.1 (by omega))), ih]
   ·exact ih
theorem Zgy (l : List UInt8) : Ze3 (Zbv l) 0 (Zbv l).length ↔ Zd3 l = true := by
 have e : Zd3 l = true ↔ ∀ n : Nat, 97 ≤ n → n ≤ 102 → (Zbv l).count (n : Int) ≤ 1 := by
  unfold Zd3
  simp only [List.all_cons, List.all_nil, Bool.and_true, Bool.and_eq_true, decide_eq_true_eq]
  rw [← Zdo l 97 (by decide), ← Zdo l 98 (by decide), ← Zdo l 99 (by decide), ← Zdo l 100 (by decide), ← Zdo l 101 (by decide), ← Zdo l 102 (by decide)]
  constructor
  ·rintro ⟨h1, h2, h3, h4, h5, h6⟩ n ha hb
   have : n = 97 ∨ n = 98 ∨ n = 99 ∨ n = 100 ∨ n = 101 ∨ n = 102 := by omega
   rcases this with rfl | rfl | rfl | rfl | rfl | rfl
   ·exact h1
   ·exact h2
   ·exact h3
   ·exact h4
   ·exact h5
   ·exact h6
  ·intro h
   exact ⟨h 97 (by omega) (by omega), h 98 (by omega) (by omega), h 99 (by omega) (by omega), h 100 (by omega) (by omega), h 101 (by omega) (by omega), h 102 (by omega) (by omega)⟩
 rw [e]
 constructor
 ·intro q n ha hb
  rw [← Zfi]
  rintro i hi j hj ⟨h1, h2⟩
  have := q i (by omega) hi j hj
  simp [clash, nameI, h1, h2] at this
  omega
 ·intro q i' _ hi j hj
  cases hc : clash (Zbv l) i' j with
  | false => rfl
  | true =>
   exfalso
   simp only [clash, nameI, Bool.and_eq_true, beq_iff_eq, decide_eq_true_eq] at hc
   obtain ⟨n, hn⟩ : ∃ n : Nat, rd (Zbv l) i' = n := ⟨(rd (Zbv l) i').toNat, by omega⟩
   have := (Zfi (n : Int) (Zbv l)).2 (q n (by omega) (by omega)) i' hi j hj
   exact this ⟨hn, by rw [← hc.1, hn]⟩
theorem bt_n (t : ByteArray) (i : Nat) (h : i < t.data.toList.length) : bt t (i : Int) = (t.data.toList[i].toNat : Int) := by
 have hs : i < t.size := by rw [Lib.size_eq]; exact h
 unfold bt
 rw [dif_pos (by simpa using hs)]
 rfl
theorem Zk1 (c : UInt8) : Zdz.f (c.toNat : Int) = some (okC c) := by
 unfold Zdz.f okC
 rw [Zi6]
 have e1 : ((c.toNat : Nat) : Int) = 35 ↔ c = 35 := by
  constructor
  ·intro h; exact UInt8.toNat_inj.1 (by show c.toNat = 35; omega)
  ·rintro rfl; rfl
 have e2 : ((c.toNat : Nat) : Int) = 46 ↔ c = 46 := by
  constructor
  ·intro h; exact UInt8.toNat_inj.1 (by show c.toNat = 46; omega)
  ·rintro rfl; rfl
 by_cases h1 : c = 35
 ·rw [if_pos (e1.2 h1)]; simp [h1]
 ·rw [if_neg (fun q => h1 (e1.1 q))]
  by_cases h2 : c = 46
  ·rw [if_pos (e2.2 h2)]; simp [h2]
  ·rw [if_neg (fun q => h2 (e2.1 q))]; simp [h1, h2]
theorem scan_ev (t : ByteArray) (hsz : t.data.toList.length ≤ 42) (R : Int × Int × List Int × Bool) : ∀ (rest : List UInt8) (i x gw gh : Nat) (cells : List Int), t.data.toList.drop i = rest → i + rest.length = t.data.toList.length → x ≤ i → gh ≤ i → cells.length ≤ i →
  (∀ w h cs, scanT x gw gh cells rest = some (w, h, cs) → Ev (fun k => Zaq.l0 k t 0 ((t.data.toList.length + 1 : Nat) : Int) w h cs) R) → (scanT x gw gh cells rest = none → R = failR) →
  Ev (fun k => Zaq.l0 k t (x : Int) (i : Int) (gw : Int) (gh : Int) cells) R := by
 have hts : t.size = t.data.toList.length := Lib.size_eq t
 have slash : ∀ (i x gw gh : Nat) (cells : List Int), i ≤ 42 → x ≤ i → gh ≤ i → (¬ (x = 0 ∨ (0 < gh ∧ x ≠ gw)) → Ev (fun k => Zaq.l0 k t 0 ((i + 1 : Nat) : Int) (x : Int) ((gh + 1 : Nat) : Int) cells) R) → (x = 0 ∨ (0 < gh ∧ x ≠ gw) → R = failR) →
   Ev (fun k => Zaq.j1 k t (x : Int) (i : Int) false (gw : Int) (gh : Int) cells) R := by
  intro i x gw gh cells hi hx hg h1 h2
  by_cases q : x = 0 ∨ (0 < gh ∧ x ≠ gw)
  ·rw [h2 q]
   refine Ev.shift (g := fun _ => some failR) (Ev.const rfl) (fun k => ?_)
   simp only [Zaq.j1]
   rw [if_neg (by simp)]
   by_cases p : (gh : Int) > 0
   ·rw [if_pos p]
    by_cases p2 : (x : Int) = (gw : Int)
    ·rw [if_pos p2, if_pos (by omega)]; rfl
    ·rw [if_neg p2]; rfl
   ·rw [if_neg p, if_pos (by omega)]; rfl
  ·refine Ev.shift (h1 q) (fun k => ?_)
   simp only [Zaq.j1]
   rw [if_neg (by simp), Zc2 i (by omega), Zc2 gh (by omega)]
   by_cases p : (gh : Int) > 0
   ·rw [if_pos p, if_pos (by omega), if_neg (by omega)]
   ·rw [if_neg p, if_neg (by omega)]
 intro rest
 induction rest with
 | nil =>
  intro i x gw gh cells hd hi hx hg hc h1 h2
  have e : i = t.data.toList.length := by simpa using hi
  rw [scanT] at h1 h2
  refine Ev.shift (slash i x gw gh cells (by omega) hx hg (fun q => ?_) (fun q => h2 (by rw [if_pos q]))) (fun k => ?_)
  ·have := h1 x (gh + 1) cells (by rw [if_neg q])
   rw [e]; exact this
  ·simp only [Zaq.l0]
   rw [if_pos (by omega), if_neg (by omega)]
 | cons c cs ih =>
  intro i x gw gh cells hd hi hx hg hc h1 h2
  have hlt : i < t.data.toList.length := by simp at hi; omega
  rw [Zcq _ i hlt] at hd
  obtain ⟨rfl, hd2⟩ := List.cons.inj hd
  have hb := bt_n t i hlt
  rw [scanT] at h1 h2
  by_cases h47 : t.data.toList[i] = 47
  ·rw [if_pos h47] at h1 h2
   refine Ev.shift (slash i x gw gh cells (by omega) hx hg (fun q => ?_) (fun q => h2 (by rw [if_pos q]))) (fun k => ?_)
   ·rw [if_neg q] at h1 h2
    exact ih (i + 1) 0 x (gh + 1) cells hd2 (by simp at hi; omega) (by omega) (by omega) (by omega) h1 h2
   ·simp only [Zaq.l0]
    rw [if_pos (by omega), if_pos (by omega), if_pos (by omega), hb, h47]
    rfl
  ·rw [if_neg h47] at h1 h2
   have hne : ((t.data.toList[i].toNat : Int) != 47) = true := by
    rw [bne_iff_ne]
    intro q
    exact h47 (UInt8.toNat_inj.1 (by show t.data.toList[i].toNat = 47; omega))
   refine Ev.shift (g := fun k => Zaq.j1 k t (x : Int) (i : Int) true (gw : Int) (gh : Int) cells) ?_ (fun k => ?_)
   ·cases ho : okC t.data.toList[i] with
    | false =>
     rw [ho, if_neg (by simp)] at h2
     rw [h2 rfl]
     refine Ev.shift (g := fun _ => some failR) (Ev.const rfl) (fun k => ?_)
     simp only [Zaq.j1]
     rw [if_pos trivial, if_pos (by omega), if_pos (by omega), hb, Zk1, ho]
     rfl
    | true =>
     rw [ho, if_pos rfl] at h1 h2
     refine Ev.shift (ih (i + 1) (x + 1) gw gh (cells ++ [(t.data.toList[i].toNat : Int)]) hd2 (by simp at hi; omega) (by omega) (by omega) (by simp; omega) h1 h2) (fun k => ?_)
     simp only [Zaq.j1]
     rw [if_pos trivial, if_pos (by omega), if_pos (by omega), hb, Zk1, ho, Option.bind_some, if_pos rfl, if_pos (show cells.length < 140737488355328 by omega), Zc2 x (by omega), Zc2 i (by omega)]
   ·simp only [Zaq.l0]
    rw [if_pos (by omega), if_pos (by omega), if_pos (by omega), hb, hne]
theorem Zj8 : ∀ l : List UInt8, l.length + 1 = (Zbj l).flatten.length + (Zbj l).length
 | [] => rfl
 | c :: cs => by
  have ih := Zj8 cs
  rw [Zbj]
  split
  ·simp only [List.flatten_cons, List.nil_append, List.length_cons]; omega
  ·cases hr : Zbj cs with
   | nil => exact absurd hr (Zej _)
   | cons r rs =>
    rw [hr] at ih
    simp only [consH, List.flatten_cons, List.length_append, List.length_cons] at ih ⊢
    omega
theorem Zh8 (w : Nat) : ∀ L : List (List UInt8), (∀ r ∈ L, r.length = w) → L.flatten.length = w * L.length
 | [], _ => by simp
 | r :: L, h => by
  have h1 := Zh8 w L (fun r hr => h r (List.mem_cons_of_mem _ hr))
  have h2 := h r List.mem_cons_self
  rw [List.flatten_cons, List.length_append, h1, h2, List.length_cons, Nat.mul_succ]; omega
structure TrayT (l : List UInt8) : Prop where
 w0 : 0 < Zcs l
 w7 : Zcs l ≤ 7
 h0 : 0 < Zce l
 h7 : Zce l ≤ 7
 wh : Zcs l * Zce l ≤ 36
 rows : ∀ r ∈ Zbj l, r.length = Zcs l ∧ r.all okC = true
 names : Zd3 l = true
 len : (Zbv l).length = Zcs l * Zce l
 size : l.length ≤ 42
theorem Zfq (l : List UInt8) (h : okT l = true) : TrayT l := by
 unfold okT Zea at h
 simp only [Bool.and_eq_true, decide_eq_true_eq, List.all_eq_true] at h
 obtain ⟨⟨⟨⟨⟨⟨h1, h2⟩, h3⟩, h4⟩, h5⟩, h6⟩, h7⟩ := h
 have hr : ∀ r ∈ Zbj l, r.length = Zcs l ∧ r.all okC = true := by
  intro r hr
  have := h6 r hr
  unfold rowOk at this
  rw [Bool.and_eq_true, decide_eq_true_eq] at this
  exact this
 have hf := Zh8 (Zcs l) (Zbj l) (fun r q => (hr r q).1)
 have hlen : (Zbv l).length = Zcs l * Zce l := by unfold Zbv Zce; rw [List.length_map, hf]
 have hl := Zj8 l
 refine ⟨by omega, h2, by omega, h4, h5, hr, h7, hlen, ?_⟩
 have : (Zbj l).length = Zce l := rfl
 have e : (Zbj l).flatten.length = Zcs l * Zce l := hf
 omega
theorem Zk0 (t : ByteArray) (ht : t.size < 4294967290) : Ev (fun k => Zaq.f k t) (if okT t.data.toList = true then ((Zcs t.data.toList : Nat), (Zce t.data.toList : Nat), Zbv t.data.toList, true) else failR) := by
 have hts : t.size = t.data.toList.length := Lib.size_eq t
 by_cases hs : t.data.toList.length ≤ 42
 ·refine Ev.congr (g := fun k => Zaq.l0 k t ((0 : Nat) : Int) ((0 : Nat) : Int) ((0 : Nat) : Int) ((0 : Nat) : Int) []) ?_ (fun k => ?_)
  ·cases hr : Zbj t.data.toList with
   | nil => exact absurd hr (Zej _)
   | cons r rs =>
   have hsc := Zgr t.data.toList 0 0 0 [] r rs hr
   have hw : Zcs t.data.toList = r.length := by unfold Zcs; rw [hr]; rfl
   have hh : Zce t.data.toList = rs.length + 1 := by unfold Zce; rw [hr]; rfl
   have hok : okT t.data.toList = (Zea r.length (rs.length + 1) && (rowOk r.length r && rs.all (rowOk r.length)) && Zd3 t.data.toList) := by
    unfold okT; rw [hw, hh, hr, List.all_cons]
   have hself : rowOk r.length r = r.all okC := by unfold rowOk; rw [decide_eq_true rfl]; rfl
   refine scan_ev t hs _ t.data.toList 0 0 0 0 [] rfl (by omega) (by omega) (by omega) (by simp) ?_ ?_
   ·intro w h cs he
    rw [hsc] at he
    split at he
    ·rename_i hg
     obtain ⟨g1, g2, g3, _⟩ := hg
     have hcs : Zbv t.data.toList = (r ++ rs.flatten).map fun b => (b.toNat : Int) := by unfold Zbv; rw [hr, List.flatten_cons]
     rw [← hcs] at he
     simp only [Option.some.injEq, Prod.mk.injEq, Nat.zero_add, List.nil_append] at he
     obtain ⟨rfl, rfl, rfl⟩ := he
     have g2' : rs.all (rowOk r.length) = true := by
      rw [List.all_eq_true]; intro q hq; have := g2 q hq; rwa [Nat.zero_add] at this
     have hclen : (Zbv t.data.toList).length = r.length * (rs.length + 1) := by
      rw [hcs, List.length_map, List.length_append, Zh8 r.length rs, Nat.mul_succ, Nat.add_comm]
      intro q hq
      have := List.all_eq_true.1 g2' q hq
      unfold rowOk at this
      rw [Bool.and_eq_true, decide_eq_true_eq] at this
      exact this.1
     have hcl2 : (Zbv t.data.toList).length ≤ 1000 := by
      have h1 : (Zbv t.data.toList).length ≤ t.data.toList.length := by
       unfold Zbv; rw [List.length_map, Zfd]; exact List.length_filter_le _ _
      omega
     rw [hok, hself, g1, g2', Bool.and_self, Bool.and_true]
     have fin : ∀ b : Bool, (b = false → Ev (fun k => Zaq.l1 k (Zbv t.data.toList) ((Zbv t.data.toList).length : Int) 0 (r.length : Int) ((1 + rs.length : Nat) : Int) (Zbv t.data.toList)) (if (Zea r.length (rs.length + 1) && Zd3 t.data.toList) = true then ((Zcs t.data.toList : Nat), (Zce t.data.toList : Nat), Zbv t.data.toList, true) else failR)) →
       (b = true → Zea r.length (rs.length + 1) = false) → Ev (fun k => Zaq.j2 k b (r.length : Int) ((1 + rs.length : Nat) : Int) (Zbv t.data.toList)) (if (Zea r.length (rs.length + 1) && Zd3 t.data.toList) = true then ((Zcs t.data.toList : Nat), (Zce t.data.toList : Nat), Zbv t.data.toList, true) else failR) := by
      intro b h1 h2
      cases b
      ·refine Ev.shift (h1 rfl) (fun k => ?_)
       simp only [Zaq.j2]
       rw [if_neg (by simp)]
      ·rw [h2 rfl, Bool.false_and, if_neg (by simp)]
       refine Ev.shift (g := fun _ => some failR) (Ev.const rfl) (fun k => ?_)
       simp only [Zaq.j2]
       rfl
     have bad : ¬ (r.length ≤ 7 ∧ rs.length + 1 ≤ 7 ∧ (Zbv t.data.toList).length ≤ 36) → Zea r.length (rs.length + 1) = false := by
      intro q
      cases hz : Zea r.length (rs.length + 1) with
      | false => rfl
      | true =>
       exfalso
       unfold Zea at hz
       simp only [Bool.and_eq_true, decide_eq_true_eq] at hz
       exact q ⟨hz.1.1.1.2, hz.1.2, by rw [hclen]; exact hz.2⟩
     by_cases c1 : r.length ≤ 7
     ·by_cases c2 : rs.length + 1 ≤ 7
      ·refine Ev.shift (fin (decide (((Zbv t.data.toList).length : Int) > 36)) (fun q => ?_) (fun q => bad (by simp at q; omega))) (fun k => ?_)
       ·have c3 : (Zbv t.data.toList).length ≤ 36 := by simp at q; omega
        have hz : Zea r.length (rs.length + 1) = true := by
         unfold Zea
         simp only [Bool.and_eq_true, decide_eq_true_eq]
         exact ⟨⟨⟨⟨by omega, c1⟩, by omega⟩, c2⟩, by rw [← hclen]; exact c3⟩
        have hd := dup_ev (r.length : Int) ((1 + rs.length : Nat) : Int) (Zbv t.data.toList) hcl2 (Zbv t.data.toList).length 0 (by omega)
        rw [hz, Bool.true_and]
        by_cases hn : Zd3 t.data.toList = true
        ·rw [if_pos ((Zgy _).2 hn)] at hd
         rw [if_pos hn, hw, hh, Nat.add_comm rs.length 1]
         exact hd
        ·rw [if_neg (fun q => hn ((Zgy _).1 q))] at hd
         rw [if_neg hn]
         exact hd
       ·simp only [Zaq.l0]
        rw [if_neg (by omega), if_neg (by omega), if_neg (by omega)]
      ·refine Ev.shift (fin true (fun q => by cases q) (fun _ => bad (by omega))) (fun k => ?_)
       simp only [Zaq.l0]
       rw [if_neg (by omega), if_neg (by omega), if_pos (by omega)]
     ·refine Ev.shift (fin true (fun q => by cases q) (fun _ => bad (by omega))) (fun k => ?_)
      simp only [Zaq.l0]
      rw [if_neg (by omega), if_pos (by omega)]
    ·cases he
   ·intro hn
    rw [hsc] at hn
    split at hn
    ·cases hn
    ·rename_i hg
     rw [if_neg ?_]
     intro hk
     have T := Zfq _ hk
     apply hg
     have hr0 := T.rows r (by rw [hr]; exact List.mem_cons_self)
     refine ⟨hr0.2, fun q hq => ?_, by have := T.w0; omega, Or.inl rfl⟩
     have := T.rows q (by rw [hr]; exact List.mem_cons_of_mem _ hq)
     unfold rowOk
     rw [this.2, Nat.zero_add, ← hw, decide_eq_true this.1]; rfl
  ·unfold Zaq.f
   rw [if_neg (by omega)]
   rfl
 ·have hn : ¬ okT t.data.toList = true := fun q => hs (Zfq _ q).size
  rw [if_neg hn]
  refine Ev.congr (g := fun _ => some failR) (Ev.const rfl) (fun k => ?_)
  unfold Zaq.f
  rw [if_pos (by omega)]
  rfl
def goodB (c : UInt8) : Bool := decide (0 ≤ dirIx c)
theorem Ziz (c : UInt8) : goodB c = true ↔ goodD c := by
 rw [goodD_ix]; simp [goodB]
theorem Zlv (c : UInt8) : ([117, 114, 100, 108] : List UInt8).contains c = goodB c := by
 rw [Bool.eq_iff_iff, Ziz]
 unfold goodD
 simp
def Zdx (l : List UInt8) : Bool := decide (l.length ≤ 40) && l.all goodB
theorem Zlq (t : ByteArray) (ht : t.size < 4294967290) : Zcu.f t = some (Zdx t.data.toList) := by
 have hts : t.size = t.data.toList.length := Lib.size_eq t
 unfold Zcu.f Zdx
 by_cases h : t.data.toList.length ≤ 40
 ·obtain ⟨tr, h1, h2⟩ := Zk3 t ⟨#[117, 114, 100, 108]⟩ (by omega) (by decide) (by decide)
  rw [if_pos (by omega), h1, Option.bind_some, decide_eq_true h, Bool.true_and]
  congr 1
  have e : t.data.toList.all (fun c => ([117, 114, 100, 108] : List UInt8).contains c) = t.data.toList.all goodB := by
   congr 1; funext c; exact Zlv c
  rw [← e, Bool.eq_iff_iff, beq_iff_eq]
  exact h2
 ·rw [if_neg (by omega), decide_eq_false h, Bool.false_and]
theorem Zju : ∀ (k : Nat) (a b c d : Int) (l : List Int), Zbf.l0 k a b c d l = Zax.l0 k a b c d l
 | 0, _, _, _, _, _ => rfl
 | k + 1, a, b, c, d, l => by
  simp only [Zbf.l0, Zax.l0, Zi6, Zfs, Option.bind_some, Zju k]
theorem Zkk (w h : Int) (cells : List Int) (h0 : cells ≠ []) (hl : cells.length < 1000000) : Ev (fun k => Zbf.f k w h cells) (w, h, emptL cells) := by
 refine Ev.congr (Zhp w h cells h0 hl) (fun k => ?_)
 show Zbf.f k w h cells = Zax.f k w h cells
 unfold Zbf.f Zb8.f Zax.f Zb0.f Zbz.f
 rw [if_pos ⟨h0, by omega⟩, Option.bind_some, if_pos (by simp; omega)]
 simp only [Option.bind_some, List.nil_append]
 exact Zju _ _ _ _ _ _
def setM (cells : List Int) (x : List Int) (p : Int × Int) : List Int := x.set p.2.toNat (rd cells p.1)
theorem Zf6 (cells own : List Int) : ∀ (ks : List Int) (n : Nat) (x : List Int), putGo cells own n ks x = (mvGo cells own n ks).foldl (setM cells) x
 | [], _, _ => rfl
 | k :: ks, n, x => by
  rw [putGo, mvGo]
  split
  ·rw [List.foldl_cons, Zf6 cells own ks (n + 1)]
   rfl
  ·exact Zf6 cells own ks n x
theorem Zgw (cells : List Int) : ∀ (S : List (List Int)) (x : List Int), putS cells S x = (mvAll cells S).foldl (setM cells) x
 | [], _ => rfl
 | s :: S, x => by
  have h := Zgw cells S (putGo cells s 0 s x)
  unfold putS at h ⊢
  rw [List.foldl_cons, h, Zf6]
  unfold mvAll
  rw [List.flatMap_cons, List.foldl_append]
  rfl
theorem Zgf (cells : List Int) : ∀ (mv : List (Int × Int)) (x : List Int), (mv.foldl (setM cells) x).length = x.length
 | [], _ => rfl
 | p :: mv, x => by rw [List.foldl_cons, Zgf cells mv]; simp [setM]
theorem rd_setM (cells x : List Int) (p : Int × Int) (j : Nat) (hj : j < x.length) (h0 : 0 ≤ p.2) : rd (setM cells x p) j = if p.2 = j then rd cells p.1 else rd x j := by
 rw [rd_n _ j (by simpa [setM] using hj), rd_n x j hj]
 simp only [setM, List.getElem_set]
 by_cases h : p.2 = (j : Int)
 ·rw [if_pos h, if_pos (by omega)]
 ·rw [if_neg h, if_neg (by omega)]
theorem foldM (cells : List Int) (j : Nat) (v : Int) : ∀ (mv : List (Int × Int)) (x : List Int), j < x.length → (∀ p ∈ mv, 0 ≤ p.2) → (∀ p ∈ mv, p.2 = j → rd cells p.1 = v) →
  ((∃ p ∈ mv, p.2 = j) → rd (mv.foldl (setM cells) x) j = v) ∧ ((∀ p ∈ mv, p.2 ≠ j) → rd (mv.foldl (setM cells) x) j = rd x j)
 | [], x, _, _, _ => ⟨fun h => (by obtain ⟨p, hp, _⟩ := h; cases hp), fun _ => rfl⟩
 | p :: mv, x, hj, h0, hv => by
  have hl : j < (setM cells x p).length := by simpa [setM] using hj
  have ih := foldM cells j v mv (setM cells x p) hl (fun q hq => h0 q (List.mem_cons_of_mem _ hq)) (fun q hq => hv q (List.mem_cons_of_mem _ hq))
  have hs := rd_setM cells x p j hj (h0 p List.mem_cons_self)
  rw [List.foldl_cons]
  constructor
  ·rintro ⟨q, hq, he⟩
   by_cases hex : ∃ q ∈ mv, q.2 = (j : Int)
   ·exact ih.1 hex
   ·rw [ih.2 (fun q hq he => hex ⟨q, hq, he⟩), hs]
    rcases List.mem_cons.1 hq with rfl | hq
    ·rw [if_pos he]; exact hv q List.mem_cons_self he
    ·exact absurd ⟨q, hq, he⟩ hex
  ·intro hn
   rw [ih.2 (fun q hq => hn q (List.mem_cons_of_mem _ hq)), hs, if_neg (hn p List.mem_cons_self)]
theorem Zfe (cells : List Int) (S : List (List Int)) (x : List Int) : (putS cells S x).length = x.length := by
 rw [Zgw, Zgf]
theorem tilt_eq (w h : Nat) (cells : List Int) (d : Int) (hd : isD d) (hw : w ≤ 8) (hh : h ≤ 8) (hl : cells.length = w * h) : putS cells (Zci w h cells (dI d)) (emptL cells) = tiltI w h cells d := by
 have hm : ∀ p : Int × Int, p ∈ mvAll cells (Zci w h cells (dI d)) ↔ p ∈ mvAll cells (strI w h cells d) := by
  intro p
  unfold mvAll
  rw [List.mem_flatMap, List.mem_flatMap]
  constructor
  ·rintro ⟨o, ho, hp⟩; exact ⟨o, (Zij w h cells d hd hw hh hl o).2 ho, hp⟩
  ·rintro ⟨o, ho, hp⟩; exact ⟨o, (Zij w h cells d hd hw hh hl o).1 ho, hp⟩
 have n2 : ((mvAll cells (strI w h cells d)).map (·.2)).Nodup := List.Nodup.sublist (Zfr cells _) (Zf1 w h cells d)
 unfold List.Nodup at n2
 rw [List.pairwise_map] at n2
 have hinj := @Zec _ _ (fun p : Int × Int => p.2) _ n2
 have hel : (emptL cells).length = cells.length := by simp [emptL]
 apply List.ext_getElem
 ·rw [Zfe]; simp [tiltI, Zdj]
 ·intro j h1 h2
  rw [Zfe, hel] at h1
  have e1 := rd_n (putS cells (Zci w h cells (dI d)) (emptL cells)) j (by rw [Zfe, hel]; exact h1)
  rw [← e1, Zgw]
  have e2 : (tiltI w h cells d)[j]'h2 = cellC cells (emptL cells) (mvAll cells (strI w h cells d)) j := by simp [tiltI, Zdj]
  rw [e2]
  have h0 : ∀ p ∈ mvAll cells (Zci w h cells (dI d)), 0 ≤ p.2 := fun p hp => (mv_mem w h cells d p ((hm p).1 hp)).2.2.1
  unfold cellC
  cases hf : (mvAll cells (strI w h cells d)).find? (fun p => p.2 == (j : Int)) with
  | some q =>
   have hq := List.mem_of_find?_eq_some hf
   have hqj : q.2 = (j : Int) := by simpa using List.find?_some hf
   refine (foldM cells j (rd cells q.1) _ _ (by omega) h0 (fun p hp he => ?_)).1 ⟨q, (hm q).2 hq, hqj⟩
   rw [hinj ((hm p).1 hp) hq (show p.2 = q.2 by omega)]
  | none =>
   have hn := List.find?_eq_none.1 hf
   have hn2 : ∀ p ∈ mvAll cells (Zci w h cells (dI d)), p.2 ≠ (j : Int) := fun p hp he => hn p ((hm p).1 hp) (by simpa using he)
   exact (foldM cells j 0 _ _ (by omega) h0 (fun p hp he => absurd he (hn2 p hp))).2 hn2
theorem dI_range (d : Int) : 0 ≤ dI d ∧ dI d ≤ 3 := by
 unfold dI; repeat' split
 all_goals omega
theorem Zk7 (w h : Nat) (cells : List Int) (d : Int) (hd : isD d) (hw0 : 0 < w) (hh0 : 0 < h) (hw : w ≤ 7) (hh : h ≤ 7) (hl : cells.length = w * h) :
  Ev (fun k => Zde.f k w h cells (dI d)) ((w : Int), (h : Int), tiltI w h cells d) := by
 have hwh0 : 0 < w * h := Nat.mul_pos hw0 hh0
 have hwh : w * h ≤ 49 := Nat.mul_le_mul hw hh
 have c1 : (cells.length : Int) = (w : Int) * (h : Int) := by rw [hl]; simp
 have c2 : (w : Int) * (h : Int) = ((w * h : Nat) : Int) := by simp
 have hne : cells ≠ [] := by rintro rfl; simp at hl; omega
 have sl := Zhe w h cells (dI d)
 refine Ev.bind (g := fun k r => (Zam.f k w h cells (dI d)).bind fun S =>
  if Zfg cells S = true ∧ r.2.2.length = cells.length ∧ 0 < cells.length ∧ cells.length < 4294967296 ∧ S.length < 4294967296 ∧ (∀ own ∈ S, own.length < 4294967296) then some (r.1, r.2.1, putS cells S r.2.2) else none) (Zkk w h cells hne (by omega)) ?_
 refine Ev.bind (g := fun k S => if Zfg cells S = true ∧ (emptL cells).length = cells.length ∧ 0 < cells.length ∧ cells.length < 4294967296 ∧ S.length < 4294967296 ∧ (∀ own ∈ S, own.length < 4294967296) then some ((w : Int), (h : Int), putS cells S (emptL cells)) else none) (Zhc w h (dI d) cells (by omega) (by omega) (by omega) (by omega) c1 (by omega) (by omega) (dI_range d)) (Ev.const ?_)
 rw [if_pos ?_, tilt_eq w h cells d hd (by omega) (by omega) hl]
 refine ⟨?_, by simp [emptL], by omega, by omega, by omega, fun own ho => by have := Zgh w h cells (dI d) own ho; omega⟩
 unfold Zfg
 simp only [List.all_eq_true, Bool.and_eq_true, decide_eq_true_eq]
 exact Zhw w h cells (dI d) (by omega) (by omega) c1
def runL (w h : Nat) : List UInt8 → List Int → List Int
 | [], l => l
 | c :: cs, l => runL w h cs (tiltI w h l (c.toNat : Int))
theorem Zez (w h : Nat) (cells : List Int) (d : Int) : (tiltI w h cells d).length = cells.length := by simp [tiltI, Zdj, emptL]
theorem Zfc (w h : Nat) : ∀ (L : List UInt8) (l : List Int), (runL w h L l).length = l.length
 | [], _ => rfl
 | c :: cs, l => by rw [runL, Zfc w h cs, Zez]
theorem all_ev (w h : Nat) (hw0 : 0 < w) (hh0 : 0 < h) (hw : w ≤ 7) (hh : h ≤ 7) : ∀ (L : List UInt8) (cells : List Int), cells.length = w * h → (∀ c ∈ L, goodD c) →
  Ev (fun k => allGo k (L.map fun b => (b.toNat : Int)) w h cells) ((w : Int), (h : Int), runL w h L cells)
 | [], cells, hl, hg => Ev.const rfl
 | c :: cs, cells, hl, hg => by
  have h1 := Zk5 w h cells (c.toNat : Int) (Ziy c (hg c List.mem_cons_self)).1 hw0 hh0 (by omega) (by omega) hl
  have h2 := all_ev w h hw0 hh0 hw hh cs (tiltI w h cells (c.toNat : Int)) (by rw [Zez]; exact hl) (fun b hb => hg b (List.mem_cons_of_mem _ hb))
  exact Ev.bind (g := fun k (r : Int × Int × List Int) => allGo k (cs.map fun b => (b.toNat : Int)) r.1 r.2.1 r.2.2) h1 h2
theorem Zig (w h : Nat) (cells : List Int) (word : ByteArray) (hw0 : 0 < w) (hh0 : 0 < h) (hw : w ≤ 7) (hh : h ≤ 7) (hl : cells.length = w * h) (hs : word.size < 1000000) (hg : ∀ c ∈ word.data.toList, goodD c) :
  Ev (fun k => Zb5.f k w h cells word) ((w : Int), (h : Int), runL w h word.data.toList cells) := by
 refine Ev.congr (all_ev w h hw0 hh0 hw hh word.data.toList cells hl hg) (fun k => ?_)
 unfold Zb5.f
 rw [if_pos hs]
 rfl
theorem run_ev (w h : Nat) (word : ByteArray) (hw0 : 0 < w) (hh0 : 0 < h) (hw : w ≤ 7) (hh : h ≤ 7) (hg : ∀ c ∈ word.data.toList, goodD c) : ∀ (m i : Nat) (cells : List Int), i + m = word.data.toList.length → cells.length = w * h →
  Ev (fun k => runGo k word i m w h cells) ((w : Int), (h : Int), runL w h (word.data.toList.drop i) cells)
 | 0, i, cells, hi, hl => by
  rw [List.drop_eq_nil_of_le (by omega)]
  exact Ev.const rfl
 | m + 1, i, cells, hi, hl => by
  have hlt : i < word.data.toList.length := by omega
  have hgc := Ziy _ (hg word.data.toList[i] (List.getElem_mem _))
  rw [Zcq _ i hlt]
  have h1 := Zjv word.data.toList[i]
  rw [← Zlz word i hlt, ← hgc.2] at h1
  exact Ev.bind (g := fun k d => (Zde.f k w h cells d).bind fun r => runGo k word (i + 1) m r.1 r.2.1 r.2.2) h1
   (Ev.bind (g := fun k r => runGo k word (i + 1) m r.1 r.2.1 r.2.2) (Zk7 w h cells _ hgc.1 hw0 hh0 hw hh hl)
    (run_ev w h word hw0 hh0 hw hh hg m (i + 1) _ (by omega) (by rw [Zez]; exact hl)))
theorem tiRun_ev (w h : Nat) (cells : List Int) (word : ByteArray) (hw0 : 0 < w) (hh0 : 0 < h) (hw : w ≤ 7) (hh : h ≤ 7) (hl : cells.length = w * h) (hs : word.size < 1000000) (hg : ∀ c ∈ word.data.toList, goodD c) :
  Ev (fun k => Zdi.f k w h cells word) ((w : Int), (h : Int), runL w h word.data.toList cells) := by
 have h0 := run_ev w h word hw0 hh0 hw hh hg word.size 0 cells (by rw [Lib.size_eq]; omega) hl
 rw [List.drop_zero] at h0
 refine Ev.congr h0 (fun k => ?_)
 unfold Zdi.f
 rw [if_pos hs]
def tabL (w h : Nat) (cells inputs outputs : List Int) (L : List UInt8) : Nat → List Int
 | 0 => []
 | n + 1 => tabL w h cells inputs outputs L n ++ [(outT (runL w h L (fillT cells inputs n inputs.length)) outputs outputs.length : Int)]
theorem Zgp (w h : Nat) (cells inputs outputs : List Int) (L : List UInt8) : ∀ n, (tabL w h cells inputs outputs L n).length = n
 | 0 => rfl
 | n + 1 => by rw [tabL, List.length_append, Zgp w h cells inputs outputs L n]; rfl
theorem tab_ev (w h : Nat) (cells inputs outputs : List Int) (word : ByteArray) (hw0 : 0 < w) (hh0 : 0 < h) (hw : w ≤ 7) (hh : h ≤ 7) (hl : cells.length = w * h) (hs : word.size < 1000000) (hg : ∀ c ∈ word.data.toList, goodD c) (ho : allIn outputs cells.length = true) : ∀ n,
  Ev (fun k => tabGo k w h cells inputs outputs word n) (tabL w h cells inputs outputs word.data.toList n)
 | 0 => Ev.const rfl
 | n + 1 => by
  have hf : (fillT cells inputs n inputs.length).length = w * h := by rw [Zc8]; exact hl
  refine Ev.bind (g := fun k out => (Zb5.f k w h (fillT cells inputs n inputs.length) word).bind fun r => if allIn outputs r.2.2.length = true then some (out ++ [(outT r.2.2 outputs outputs.length : Int)]) else none)
   (tab_ev w h cells inputs outputs word hw0 hh0 hw hh hl hs hg ho n) ?_
  refine Ev.bind (g := fun k r => if allIn outputs r.2.2.length = true then some (tabL w h cells inputs outputs word.data.toList n ++ [(outT r.2.2 outputs outputs.length : Int)]) else none) (Zig w h _ word hw0 hh0 hw hh hf hs hg) (Ev.const ?_)
  rw [if_pos (by rw [Zfc, hf, ← hl]; exact ho)]
  rfl
theorem mc_ev (w h : Nat) (cells inputs outputs : List Int) (word : ByteArray) (hw0 : 0 < w) (hh0 : 0 < h) (hw : w ≤ 7) (hh : h ≤ 7) (hl : cells.length = w * h) (hs : word.size < 1000000) (hg : ∀ c ∈ word.data.toList, goodD c) (ho : allIn outputs cells.length = true) : ∀ n,
  Ev (fun k => mcGo k w h cells inputs outputs word n) (tabL w h cells inputs outputs word.data.toList n)
 | 0 => Ev.const rfl
 | n + 1 => by
  have hf : (fillT cells inputs n inputs.length).length = w * h := by rw [Zc8]; exact hl
  refine Ev.bind (g := fun k out => (Zdi.f k w h (fillT cells inputs n inputs.length) word).bind fun r => if allIn outputs r.2.2.length = true then some (out ++ [(outT r.2.2 outputs outputs.length : Int)]) else none)
   (mc_ev w h cells inputs outputs word hw0 hh0 hw hh hl hs hg ho n) ?_
  refine Ev.bind (g := fun k r => if allIn outputs r.2.2.length = true then some (tabL w h cells inputs outputs word.data.toList n ++ [(outT r.2.2 outputs outputs.length : Int)]) else none) (tiRun_ev w h _ word hw0 hh0 hw hh hf hs hg) (Ev.const ?_)
  rw [if_pos (by rw [Zfc, hf, ← hl]; exact ho)]
  rfl
theorem Zk6 (t : ByteArray) : Ev (fun k => Zbp.f k t) (Zdx t.data.toList) := by
 have hts : t.size = t.data.toList.length := Lib.size_eq t
 by_cases h : t.data.toList.length ≤ 40
 ·have main : ∀ (m i : Nat), i + m = t.data.toList.length → Ev (fun k => Zbp.l0 k t (i : Int)) ((t.data.toList.drop i).all goodB) := by
   intro m
   induction m with
   | zero =>
    intro i hi
    refine Ev.shift (g := fun _ => some true) (Ev.const ?_) (fun k => ?_)
    ·rw [List.drop_eq_nil_of_le (by omega)]; rfl
    ·simp only [Zbp.l0]
     rw [if_neg (by omega)]
   | succ m ih =>
    intro i hi
    have hlt : i < t.data.toList.length := by omega
    have h1 := Zjv t.data.toList[i]
    rw [← Zlz t i hlt] at h1
    refine Ev.shift (g := fun k => (Zbq.f k (t.extract i (i + 1))).bind fun d => if d < 0 then some false else Zbp.l0 k t ((i + 1 : Nat) : Int)) ?_ (fun k => ?_)
    ·refine Ev.bind (g := fun k d => if d < 0 then some false else Zbp.l0 k t ((i + 1 : Nat) : Int)) h1 ?_
     rw [Zcq _ i hlt, List.all_cons]
     unfold goodB
     by_cases q : dirIx t.data.toList[i] < 0
     ·simp only [if_pos q, decide_eq_false (show ¬ 0 ≤ dirIx t.data.toList[i] by omega), Bool.false_and]
      exact Ev.const rfl
     ·simp only [if_neg q, decide_eq_true (show 0 ≤ dirIx t.data.toList[i] by omega), Bool.true_and]
      exact ih (i + 1) (by omega)
    ·simp only [Zbp.l0]
     rw [if_pos (by omega), if_pos (by omega), Zc2 i (by omega), if_pos (by omega), if_pos (by omega), Int.toNat_natCast, Int.toNat_natCast]
  have h0 := main t.data.toList.length 0 (by omega)
  rw [List.drop_zero] at h0
  unfold Zdx
  rw [decide_eq_true h, Bool.true_and]
  refine Ev.congr h0 (fun k => ?_)
  unfold Zbp.f
  rw [if_neg (by omega)]
  rfl
 ·unfold Zdx
  rw [decide_eq_false h, Bool.false_and]
  refine Ev.congr (g := fun _ => some false) (Ev.const rfl) (fun k => ?_)
  unfold Zbp.f
  rw [if_pos (by omega)]
theorem Zgm (l : List UInt8) (h : Zdx l = true) : l.length ≤ 40 ∧ ∀ c ∈ l, goodD c := by
 unfold Zdx at h
 rw [Bool.and_eq_true, decide_eq_true_eq, List.all_eq_true] at h
 exact ⟨h.1, fun c hc => (Ziz c).1 (h.2 c hc)⟩
def Zdc (acc : Int → Bool) (cells l : List Int) : Bool := inB 1 3 (l.length : Int) && (l.all (inB 0 ((cells.length : Int) - 1)) && Zd4 acc cells l 0 l.length)
theorem Zid (l : List Int) (n : Nat) (h : l.all (inB 0 ((n : Int) - 1)) = true) : l.all (fun x => decide (0 ≤ x) && decide (x < n)) = true := by
 rw [List.all_eq_true] at h ⊢
 intro x hx
 have := h x hx
 unfold inB at this
 rw [Bool.and_eq_true, decide_eq_true_eq, decide_eq_true_eq] at this ⊢
 omega
theorem Zjk (t : ByteArray) (ht : t.size < 4294967290) (hok : okT t.data.toList = true) (l : List Int) : Ev (fun k => Zck.f k t l) (l.all (inB 0 (((Zbv t.data.toList).length : Int) - 1))) := by
 have T := Zfq _ hok
 have hlen := T.len
 have h36 := T.wh
 have h1 := Zi9 t ht
 rw [hok] at h1
 refine Ev.bind (g := fun k b => if b = true then (Zcp.f k t).bind fun r => if r.2.2.length < 1000000 then Zdb.f l 0 ((r.2.2.length : Int) - 1) else none else some false) h1 ?_
 simp only [if_true]
 refine Ev.bind (g := fun k (r : Int × Int × List Int) => if r.2.2.length < 1000000 then Zdb.f l 0 ((r.2.2.length : Int) - 1) else none) (Zjf t ht) (Ev.const ?_)
 rw [if_pos (by show (Zbv t.data.toList).length < 1000000; omega)]
 rfl
theorem Zg8 (acc : Int → Bool) (t : ByteArray) (ht : t.size < 4294967290) (hok : okT t.data.toList = true) (l : List Int) : Ev (fun k => Zdr acc k t l) (Zdc acc (Zbv t.data.toList) l) := by
 unfold Zdc
 cases hin : inB 1 3 (l.length : Int)
 ·refine Ev.congr (g := fun _ => some false) (Ev.const rfl) (fun k => ?_)
  unfold Zdr
  rw [hin]
  rfl
 ·rw [Bool.true_and]
  refine Ev.congr (g := fun k => (Zck.f k t l).bind fun b => if b = true then (Zcp.f k t).bind fun r => if Zhq l r.2.2.length = true then some (Zd4 acc r.2.2 l 0 l.length) else none else some false) ?_ (fun k => ?_)
  ·refine Ev.bind (g := fun k b => if b = true then (Zcp.f k t).bind fun r => if Zhq l r.2.2.length = true then some (Zd4 acc r.2.2 l 0 l.length) else none else some false) (Zjk t ht hok l) ?_
   cases hal : l.all (inB 0 (((Zbv t.data.toList).length : Int) - 1))
   ·exact Ev.const rfl
   ·simp only [if_true, Bool.true_and]
    refine Ev.bind (g := fun k (r : Int × Int × List Int) => if Zhq l r.2.2.length = true then some (Zd4 acc r.2.2 l 0 l.length) else none) (Zjf t ht) (Ev.const ?_)
    rw [if_pos (show Zhq l (Zbv t.data.toList).length = true from Zid l _ hal)]
  ·unfold Zdr
   rw [if_pos hin]
theorem Zlk (acc : Int → Bool) (a2 : Int) (hacc : ∀ c, acc c = true ↔ (c ≠ 35 ∧ (a2 = 0 ∨ c = a2))) (cells l : List Int) : ∀ (m i : Nat), i + m = l.length →
  Zel cells l a2 i m = ((l.drop i).all (inB 0 ((cells.length : Int) - 1)) && Zd4 acc cells l i m)
 | 0, i, h => by rw [List.drop_eq_nil_of_le (by omega)]; rfl
 | m + 1, i, h => by
  have hlt : i < l.length := by omega
  have ih := Zlk acc a2 hacc cells l m (i + 1) (by omega)
  rw [Zel, Zd4, Zcq l i hlt, List.all_cons, ← rd_n l i hlt]
  cases h1 : inB 0 ((cells.length : Int) - 1) (rd l i)
  ·rw [if_pos rfl, Bool.false_and, Bool.false_and]
  ·rw [if_neg (by decide), Bool.true_and]
   by_cases h2 : (l.take i).contains (rd l i) = true
   ·rw [if_pos h2, if_pos h2, Bool.and_false]
   ·rw [if_neg h2, if_neg h2]
    by_cases h3 : acc (rd cells (rd l i)) = true
    ·have h4 := (hacc _).1 h3
     rw [if_pos h3, if_neg h4.1, if_neg (fun q => h4.2.elim q.1 q.2)]
     exact ih
    ·rw [if_neg h3, Bool.and_false]
     by_cases h5 : rd cells (rd l i) = 35
     ·rw [if_pos h5]
     ·rw [if_neg h5, if_pos]
      refine ⟨fun q => h3 ((hacc _).2 ⟨h5, Or.inl q⟩), fun q => h3 ((hacc _).2 ⟨h5, Or.inr q⟩)⟩
theorem Zhk (acc : Int → Bool) (a2 : Int) (hacc : ∀ c, acc c = true ↔ (c ≠ 35 ∧ (a2 = 0 ∨ c = a2))) (k : Nat) (x y : Int) (cells l : List Int) (hl : cells.length < 1000000) : Zbi.f k x y cells l a2 = some (Zdc acc cells l) := by
 unfold Zbi.f Zdc
 cases hin : inB 1 3 (l.length : Int)
 ·rfl
 ·rw [if_pos rfl, if_pos hl, Zlk acc a2 hacc cells l l.length 0 (by omega), List.drop_zero, Bool.true_and]
theorem acc_gate : ∀ c : Int, (c == 46) = true ↔ (c ≠ 35 ∧ ((46 : Int) = 0 ∨ c = 46)) := by
 intro c
 rw [beq_iff_eq]
 omega
theorem acc_open : ∀ c : Int, (c != 35) = true ↔ (c ≠ 35 ∧ ((0 : Int) = 0 ∨ c = 0)) := by
 intro c
 rw [bne_iff_ne]
 simp
def gateB (t : List UInt8) (l1 l2 : List Int) : Bool := okT t && (Zdc (fun c => c == 46) (Zbv t) l1 && Zdc (fun c => c != 35) (Zbv t) l2)
theorem Zls (t : ByteArray) (ht : t.size < 4294967290) (l1 l2 : List Int) : Ev (fun k => Zdf.f k t l1 l2) (gateB t.data.toList l1 l2) := by
 refine Ev.bind (g := fun k t101 => if t101 = true then ((Zbd.f k t l1).bind fun t102 => (if t102 = true then ((Za7.f k t l2).bind fun t103 => (some t103)) else (some false))) else (some false)) (Zi9 t ht) ?_
 unfold gateB
 cases hok : okT t.data.toList
 ·exact Ev.const rfl
 ·simp only [if_true, Bool.true_and]
  refine Ev.bind (g := fun k t102 => if t102 = true then ((Za7.f k t l2).bind fun t103 => (some t103)) else (some false)) (Zg8 (fun c => c == 46) t ht hok l1) ?_
  cases h1 : Zdc (fun c => c == 46) (Zbv t.data.toList) l1
  ·exact Ev.const rfl
  ·simp only [if_true, Bool.true_and]
   exact Ev.bind (g := fun k t103 => some t103) (Zg8 (fun c => c != 35) t ht hok l2) (Ev.const rfl)
theorem Zli (t d : ByteArray) (ht : t.size < 4294967290) : Ev (fun k => Zb1.f k t d) (if okT t.data.toList = true then (((Zcs t.data.toList : Nat) : Int), ((Zce t.data.toList : Nat) : Int), Zbv t.data.toList, Zdx d.data.toList) else failR) := by
 refine Ev.bind (g := fun k (bt102 : Int × Int × List Int × Bool) => if bt102.2.2.2 = true then ((Zbp.f k d).bind fun t109 => (some (bt102.1, bt102.2.1, bt102.2.2.1, t109))) else (some (bt102.1, bt102.2.1, bt102.2.2.1, false))) (Zk0 t ht) ?_
 by_cases hok : okT t.data.toList = true
 ·rw [if_pos hok, if_pos hok]
  simp only [if_true]
  exact Ev.bind (g := fun k t109 => some (((Zcs t.data.toList : Nat) : Int), ((Zce t.data.toList : Nat) : Int), Zbv t.data.toList, t109)) (Zk6 d) (Ev.const rfl)
 ·rw [if_neg hok, if_neg hok]
  exact Ev.const rfl
theorem Zll (t d : ByteArray) (ht : t.size < 4294967290) (l1 l2 : List Int) : ∃ R : Int × Int × List Int × Bool, Ev (fun k => Zbw.f k t l1 l2 d) R ∧
  ((gateB t.data.toList l1 l2 && Zdx d.data.toList) = true → R = (((Zcs t.data.toList : Nat) : Int), ((Zce t.data.toList : Nat) : Int), Zbv t.data.toList, true)) ∧ ((gateB t.data.toList l1 l2 && Zdx d.data.toList) = false → R.2.2.2 = false) := by
 have hr := Zli t d ht
 have go : ∀ (B R : Int × Int × List Int × Bool), Ev (fun k => Zb1.f k t d) B → Ev (fun k => if B.2.2.2 = true then ((Zbi.f k B.1 B.2.1 B.2.2.1 l1 46).bind fun t109 => (if t109 = true then ((Zbi.f k B.1 B.2.1 B.2.2.1 l2 0).bind fun t110 => (some (B.1, B.2.1, B.2.2.1, t110))) else (some (B.1, B.2.1, B.2.2.1, false)))) else (some (B.1, B.2.1, B.2.2.1, false))) R → Ev (fun k => Zbw.f k t l1 l2 d) R := fun B R hB h =>
  Ev.bind (g := fun k (bt102 : Int × Int × List Int × Bool) => if bt102.2.2.2 = true then ((Zbi.f k bt102.1 bt102.2.1 bt102.2.2.1 l1 46).bind fun t109 => (if t109 = true then ((Zbi.f k bt102.1 bt102.2.1 bt102.2.2.1 l2 0).bind fun t110 => (some (bt102.1, bt102.2.1, bt102.2.2.1, t110))) else (some (bt102.1, bt102.2.1, bt102.2.2.1, false)))) else (some (bt102.1, bt102.2.1, bt102.2.2.1, false))) hB h
 unfold gateB
 by_cases hok : okT t.data.toList = true
 ·rw [if_pos hok] at hr
  have T := Zfq _ hok
  have hlen := T.len
  have h36 := T.wh
  cases hw : Zdx d.data.toList
  ·rw [hw] at hr
   exact ⟨_, go _ _ hr (Ev.const rfl), fun q => by simp at q, fun _ => rfl⟩
  ·rw [hw] at hr
   rw [hok, Bool.true_and, Bool.and_true]
   refine ⟨(((Zcs t.data.toList : Nat) : Int), ((Zce t.data.toList : Nat) : Int), Zbv t.data.toList, Zdc (fun c => c == 46) (Zbv t.data.toList) l1 && Zdc (fun c => c != 35) (Zbv t.data.toList) l2), go _ _ hr ?_, fun q => by rw [q], fun q => q⟩
   refine Ev.congr (g := fun _ => some (((Zcs t.data.toList : Nat) : Int), ((Zce t.data.toList : Nat) : Int), Zbv t.data.toList, Zdc (fun c => c == 46) (Zbv t.data.toList) l1 && Zdc (fun c => c != 35) (Zbv t.data.toList) l2)) (Ev.const rfl) (fun k => ?_)
   simp only [if_true]
   rw [Zhk (fun c => c == 46) 46 acc_gate _ _ _ _ _ (by omega), Zhk (fun c => c != 35) 0 acc_open _ _ _ _ _ (by omega)]
   cases Zdc (fun c => c == 46) (Zbv t.data.toList) l1 <;> rfl
 ·rw [if_neg hok] at hr
  have hf : okT t.data.toList = false := by simpa using hok
  rw [hf]
  exact ⟨_, go _ _ hr (Ev.const rfl), fun q => by simp at q, fun _ => rfl⟩
def Zex (t : List UInt8) (l1 l2 : List Int) (d : List UInt8) : List Int := tabL (Zcs t) (Zce t) (Zbv t) l1 l2 d (2 ^ l1.length)
theorem Zhm (t : List UInt8) (l1 l2 : List Int) (h : gateB t l1 l2 = true) : TrayT t ∧ tabOk (Zbv t) l1 l2 = true ∧ allIn l2 (Zbv t).length = true := by
 unfold gateB Zdc at h
 simp only [Bool.and_eq_true] at h
 obtain ⟨hok, ⟨h1, h2, _⟩, ⟨h3, h4, _⟩⟩ := h
 have T := Zfq _ hok
 have hlen := T.len
 have h36 := T.wh
 have hp := Nat.mul_pos T.w0 T.h0
 refine ⟨T, ?_, Zid _ _ h4⟩
 unfold inB at h1 h3
 rw [Bool.and_eq_true, decide_eq_true_eq, decide_eq_true_eq] at h1 h3
 unfold tabOk
 rw [show allIn l1 (Zbv t).length = true from Zid _ _ h2, decide_eq_true (show 0 < (Zbv t).length by omega), decide_eq_true (show (Zbv t).length < 1000000 by omega), decide_eq_true (show l1.length ≤ 16 by omega), decide_eq_true (show l2.length ≤ 16 by omega)]
 rfl
def gateR (t : List UInt8) (l1 l2 : List Int) (d : List UInt8) : List Int × Bool := if (gateB t l1 l2 && Zdx d) = true then (Zex t l1 l2 d, true) else ([], false)
theorem Zja (t d : ByteArray) (ht : t.size < 4294967290) (hd : d.size < 4294967290) (l1 l2 : List Int) : Ev (fun k => Zc0.f k t l1 l2 d) (gateR t.data.toList l1 l2 d.data.toList) := by
 have hds : d.size = d.data.toList.length := Lib.size_eq d
 refine Ev.bind (g := fun k t101 => if t101 = true then ((Zcu.f d).bind fun t102 => (if t102 = true then ((Zc6.f k t l1 l2 d).bind fun t103 => (some (t103, true))) else (some (([] : List Int), false)))) else (some (([] : List Int), false))) (Zls t ht l1 l2) ?_
 unfold gateR
 cases hg : gateB t.data.toList l1 l2
 ·exact Ev.const rfl
 ·rw [Zlq d hd]
  simp only [if_true, Option.bind_some, Bool.true_and]
  cases hw : Zdx d.data.toList
  ·exact Ev.const rfl
  ·simp only [if_true]
   obtain ⟨T, ok, ho⟩ := Zhm _ l1 l2 hg
   have hW := Zgm _ hw
   refine Ev.bind (g := fun k t103 => some (t103, true)) (a := Zex t.data.toList l1 l2 d.data.toList) ?_ (Ev.const rfl)
   refine Ev.bind (g := fun k (r : Int × Int × List Int) => if tabOk r.2.2 l1 l2 = true then tabGo k r.1 r.2.1 r.2.2 l1 l2 d (2 ^ l1.length) else none) (Zjf t ht) ?_
   refine Ev.congr (tab_ev (Zcs t.data.toList) (Zce t.data.toList) (Zbv t.data.toList) l1 l2 d T.w0 T.h0 T.w7 T.h7 T.len (by omega) hW.2 ho (2 ^ l1.length)) (fun k => ?_)
   rw [if_pos ok]
theorem Zkq (t d : ByteArray) (l1 l2 : List Int) (hg : gateB t.data.toList l1 l2 = true) (hw : Zdx d.data.toList = true) : Ev (fun k => Zcm.f k (Zcs t.data.toList : Nat) (Zce t.data.toList : Nat) (Zbv t.data.toList) l1 l2 d) (Zex t.data.toList l1 l2 d.data.toList) := by
 have hds : d.size = d.data.toList.length := Lib.size_eq d
 obtain ⟨T, ok, ho⟩ := Zhm _ l1 l2 hg
 have hW := Zgm _ hw
 refine Ev.congr (mc_ev (Zcs t.data.toList) (Zce t.data.toList) (Zbv t.data.toList) l1 l2 d T.w0 T.h0 T.w7 T.h7 T.len (by omega) hW.2 ho (2 ^ l1.length)) (fun k => ?_)
 unfold Zcm.f
 rw [if_pos ok]
theorem Ziw (l : List Int) (j : Nat) (hj : j < l.length) : Lib.keeps l.toArray j = true ↔ (j = 0 ∨ l[j] ≠ l[j - 1]'(by omega)) := by
 unfold Lib.keeps
 rw [decide_eq_true_eq, getElem!_pos l.toArray j (by simpa using hj), getElem!_pos l.toArray (j - 1) (by simp; omega)]
 rfl
theorem Zjp (l : List Int) (hs : l.Pairwise (fun x y => x ≤ y)) : (Zdl l).length = l.length ↔ l.Nodup := by
 have hc : (Zdl l).length = ((List.range l.length).filter (Lib.keeps l.toArray)).length := by
  unfold Zdl Lib.compactUpTo
  rw [List.length_map, List.size_toArray]
 rw [hc]
 constructor
 ·intro h
  have hk : ∀ j, j < l.length → Lib.keeps l.toArray j = true := by
   have h2 : ((List.range l.length).filter (Lib.keeps l.toArray)).length = (List.range l.length).length := by rw [h, List.length_range]
   rw [List.length_filter_eq_length_iff] at h2
   exact fun j hj => h2 j (List.mem_range.2 hj)
  unfold List.Nodup
  rw [List.pairwise_iff_getElem] at hs ⊢
  intro i j hi hj hij e
  have h1 := (Ziw l j hj).1 (hk j hj)
  rcases h1 with h1 | h1
  ·omega
  ·by_cases q : i = j - 1
   ·subst q; exact h1 e.symm
   ·have a1 := hs i (j - 1) hi (by omega) (by omega)
    have a2 := hs (j - 1) j (by omega) hj (by omega)
    exact h1 (by omega)
 ·intro h
  unfold List.Nodup at h
  rw [List.pairwise_iff_getElem] at h
  rw [List.filter_eq_self.2, List.length_range]
  intro j hj
  have hj := List.mem_range.1 hj
  rw [Ziw l j hj]
  by_cases q : j = 0
  ·exact Or.inl q
  ·exact Or.inr (fun e => h (j - 1) j (by omega) hj (by omega) e.symm)
theorem Zkl (l : List Int) : (sortI l).Perm l := List.mergeSort_perm _ _
theorem Zin (l : List Int) : (sortI l).Pairwise (fun x y => x ≤ y) := by
 unfold sortI
 have h := List.pairwise_mergeSort (le := fun (x y : Int) => decide (x ≤ y)) (fun a b c h1 h2 => by
  rw [decide_eq_true_eq] at h1 h2 ⊢; omega) (fun a b => by
  rw [Bool.or_eq_true, decide_eq_true_eq, decide_eq_true_eq]; omega) l
 exact h.imp (fun q => of_decide_eq_true q)
def revR (t : List UInt8) (l1 l2 : List Int) (d : List UInt8) : Bool × Bool := if (gateB t l1 l2 && Zdx d) = true then (decide (Zex t l1 l2 d).Nodup, true) else (false, false)
theorem Zih (t : List UInt8) (l1 l2 : List Int) (d : List UInt8) (h : gateB t l1 l2 = true) : 0 < (Zex t l1 l2 d).length ∧ (Zex t l1 l2 d).length ≤ 8 := by
 unfold Zex
 rw [Zgp]
 unfold gateB Zdc at h
 simp only [Bool.and_eq_true] at h
 obtain ⟨hok, ⟨h1, h2, _⟩, ⟨h3, h4, _⟩⟩ := h
 unfold inB at h1
 rw [Bool.and_eq_true, decide_eq_true_eq, decide_eq_true_eq] at h1
 exact ⟨Nat.pow_pos (by omega), Nat.le_trans (Nat.pow_le_pow_right (by omega) (show l1.length ≤ 3 by omega)) (by decide)⟩
theorem Zjm (t d : ByteArray) (ht : t.size < 4294967290) (hd : d.size < 4294967290) (l1 l2 : List Int) : Ev (fun k => Zbu.f k t l1 l2 d) (revR t.data.toList l1 l2 d.data.toList) := by
 refine Ev.bind (g := fun k (bt101 : List Int × Bool) => if bt101.2 = true then ((Zbx.f bt101.1).bind fun t105 => ((Zbo.f t105).bind fun t106 => ((Za9.f t106).bind fun t109 => (some (((t109.length : Int) == (bt101.1.length : Int)), true))))) else (some (false, false))) (Zja t d ht hd l1 l2) ?_
 unfold gateR revR
 by_cases h : (gateB t.data.toList l1 l2 && Zdx d.data.toList) = true
 ·rw [if_pos h, if_pos h]
  have hg : gateB t.data.toList l1 l2 = true := by rw [Bool.and_eq_true] at h; exact h.1
  obtain ⟨p0, p1⟩ := Zih _ l1 l2 d.data.toList hg
  have hp := Zkl (Zex t.data.toList l1 l2 d.data.toList)
  have hl := hp.length_eq
  have hne : sortI (Zex t.data.toList l1 l2 d.data.toList) ≠ [] := by
   intro q
   rw [q] at hl
   simp at hl
   omega
  refine Ev.const ?_
  simp only [if_true]
  unfold Zbx.f Zbo.f Za9.f
  rw [if_pos (by omega), Option.bind_some, if_pos ⟨hne, by omega⟩, Option.bind_some, if_pos ⟨hne, by omega⟩, Option.bind_some]
  have hc := Zjp _ (Zin (Zex t.data.toList l1 l2 d.data.toList))
  rw [hp.nodup_iff, hl] at hc
  congr 2
  rw [Bool.eq_iff_iff, beq_iff_eq, decide_eq_true_eq, ← hc]
  omega
 ·rw [if_neg h, if_neg h]
  exact Ev.const rfl
theorem Zj0 (l : List Int) (hl : l.length ≤ 1000) : ∀ (m i : Nat), i + m = l.length → (l.take i).Nodup → Ev (fun k => Za0.l0 k l l (l.length : Int) (i : Int)) (decide l.Nodup, true)
 | 0, i, h, hn => by
  rw [List.take_of_length_le (by omega)] at hn
  refine Ev.shift (g := fun _ => some (true, true)) (Ev.const (by rw [decide_eq_true hn])) (fun k => ?_)
  simp only [Za0.l0]
  rw [if_neg (by omega)]
 | m + 1, i, h, hn => by
  have hlt : i < l.length := by omega
  have ht : l.take (i + 1) = l.take i ++ [l[i]] := (List.take_append_getElem hlt).symm
  have htl : (l.take i).length = i := by rw [List.length_take]; omega
  refine Ev.shift (g := fun k => (Zby.f k (l.take i) l[i]).bind fun t116 => if t116 = true then some (false, true) else Za0.l0 k l l (l.length : Int) ((i + 1 : Nat) : Int)) ?_ (fun k => ?_)
  ·refine Ev.bind (g := fun k t116 => if t116 = true then some (false, true) else Za0.l0 k l l (l.length : Int) ((i + 1 : Nat) : Int)) (a := (l.take i).contains l[i]) ⟨10000, fun k hk => Zd7 _ _ k (by omega) (by omega)⟩ ?_
   by_cases hc : l[i] ∈ l.take i
   ·have hc2 : (l.take i).contains l[i] = true := by rw [List.contains_iff_mem]; exact hc
    rw [hc2]
    have hnd : ¬ l.Nodup := by
     intro q
     have q2 := q.sublist (List.take_sublist (i + 1) l)
     rw [ht, List.nodup_append] at q2
     exact q2.2.2 _ hc _ (List.mem_singleton.2 rfl) rfl
    exact Ev.const (by rw [decide_eq_false hnd])
   ·have hc2 : (l.take i).contains l[i] = false := by
     rw [Bool.eq_false_iff]; intro q; rw [List.contains_iff_mem] at q; exact hc q
    rw [hc2]
    simp only [Bool.false_eq_true, if_false]
    refine Zj0 l hl m (i + 1) (by omega) ?_
    rw [ht, List.nodup_append]
    refine ⟨hn, by simp, fun a ha b hb e => ?_⟩
    rw [List.mem_singleton] at hb
    subst hb
    subst e
    exact hc ha
  ·simp only [Za0.l0]
   rw [if_pos (by omega), if_pos (by omega), if_pos (by omega), if_pos (by omega), rd_n l i hlt, Zc2 i (by omega), Int.toNat_natCast]
theorem Zjd (t d : ByteArray) (ht : t.size < 4294967290) (hd : d.size < 4294967290) (l1 l2 : List Int) : Ev (fun k => Za0.f k t l1 l2 d) (revR t.data.toList l1 l2 d.data.toList) := by
 obtain ⟨R, h1, h2, h3⟩ := Zll t d ht l1 l2
 refine Ev.bind (g := fun k (bt101 : Int × Int × List Int × Bool) => if bt101.2.2.2 = true then ((Zcm.f k bt101.1 bt101.2.1 bt101.2.2.1 l1 l2 d).bind fun t108 => (Za0.l0 k t108 t108 (t108.length : Int) 0)) else (some (false, false))) h1 ?_
 unfold revR
 by_cases h : (gateB t.data.toList l1 l2 && Zdx d.data.toList) = true
 ·rw [h2 h, if_pos h]
  rw [Bool.and_eq_true] at h
  have hl := Zih _ l1 l2 d.data.toList h.1
  refine Ev.bind (g := fun k (t108 : List Int) => Za0.l0 k t108 t108 (t108.length : Int) 0) (Zkq t d l1 l2 h.1 h.2) ?_
  exact Zj0 (Zex t.data.toList l1 l2 d.data.toList) (by omega) (Zex t.data.toList l1 l2 d.data.toList).length 0 (by omega) (by simp)
 ·rw [if_neg h]
  refine Ev.congr (g := fun k => some (false, false)) (Ev.const rfl) (fun k => ?_)
  rw [if_neg]
  rw [h3 (by simpa using h)]
  simp
theorem Zfk (l : List Int) (hl : l.length ≤ 10000000) : Ev (fun k => Zaw.f k l) l := by
 have main : ∀ (m i : Nat) (x : List Int), i + m = l.length → x.length = l.length → x.take i = l.take i → Ev (fun k => Zaw.l0 k l x (i : Int)) l := by
  intro m
  induction m with
  | zero =>
   intro i x hi hx ht
   rw [List.take_of_length_le (by omega), List.take_of_length_le (by omega)] at ht
   refine Ev.shift (g := fun _ => some l) (Ev.const rfl) (fun k => ?_)
   simp only [Zaw.l0]
   rw [if_neg (by omega), ht]
  | succ m ih =>
   intro i x hi hx ht
   have hlt : i < l.length := by omega
   have hltx : i < x.length := by omega
   refine Ev.shift (ih (i + 1) (x.set i l[i]) (by omega) (by simp [hx]) ?_) (fun k => ?_)
   ·rw [← List.take_append_getElem hlt, ← List.take_append_getElem (by simpa using hltx), List.getElem_set_self, List.take_set_of_le (by omega), ht]
   ·simp only [Zaw.l0]
    rw [if_pos (by omega), if_pos (by omega), if_pos (by omega), rd_n l i hlt, Zc2 i (by omega), Int.toNat_natCast]
 refine Ev.congr (main l.length 0 (List.replicate l.length 0) (by omega) (by simp) (by simp)) (fun k => ?_)
 unfold Zaw.f
 rw [if_pos (by omega), Int.toNat_natCast, if_pos (by omega)]
 rfl
theorem Zi0 (l : List Int) (hl : l.length ≤ 10000000) : Ev (fun k => Za6.f k l l) true := by
 have main : ∀ (m i : Nat), i + m = l.length → Ev (fun k => Za6.l0 k l l (i : Int)) true := by
  intro m
  induction m with
  | zero =>
   intro i hi
   refine Ev.shift (g := fun _ => some true) (Ev.const rfl) (fun k => ?_)
   simp only [Za6.l0]
   rw [if_neg (by omega)]
  | succ m ih =>
   intro i hi
   refine Ev.shift (ih (i + 1) (by omega)) (fun k => ?_)
   simp only [Za6.l0]
   rw [if_pos (by omega), if_pos (by omega), if_pos (by omega), if_pos trivial, Zc2 i (by omega)]
 refine Ev.congr (main l.length 0 (by omega)) (fun k => ?_)
 unfold Za6.f
 rw [if_pos rfl]
 rfl
theorem j0_ev (l1 l2 : List Int) (h1 : l1.length ≤ 10000000) (h2 : l2.length ≤ 10000000) : Ev (fun k => laws_FnExactIsReversible.j0 k l1 l2 l1 l2 false) true := by
 refine Ev.shift (g := fun k => (Zaw.f k l1).bind fun t117 => ((Za6.f k l1 t117).bind fun t120 => (if t120 = true then ((Zaw.f k l2).bind fun t121 => ((Za6.f k l2 t121).bind fun t124 => (if t124 = true then (some true) else (some false)))) else (some false)))) ?_ (fun k => ?_)
 ·refine Ev.bind (g := fun k t117 => (Za6.f k l1 t117).bind fun t120 => (if t120 = true then ((Zaw.f k l2).bind fun t121 => ((Za6.f k l2 t121).bind fun t124 => (if t124 = true then (some true) else (some false)))) else (some false))) (Zfk l1 h1) ?_
  refine Ev.bind (g := fun k t120 => if t120 = true then ((Zaw.f k l2).bind fun t121 => ((Za6.f k l2 t121).bind fun t124 => (if t124 = true then (some true) else (some false)))) else (some false)) (Zi0 l1 h1) ?_
  simp only [if_true]
  refine Ev.bind (g := fun k t121 => (Za6.f k l2 t121).bind fun t124 => (if t124 = true then (some true) else (some false))) (Zfk l2 h2) ?_
  exact Ev.bind (g := fun k t124 => if t124 = true then (some true) else (some false)) (Zi0 l2 h2) (Ev.const rfl)
 ·simp only [laws_FnExactIsReversible.j0]
  rw [if_neg (by decide)]
theorem Zks : laws_FnExactIsReversible.Pure := by
 intro t l1 l2 d _ _ _ _ _ _ _ _
 by_cases q1 : (t.size : Int) > 1048576
 ·exact ⟨0, by unfold laws_FnExactIsReversible.f; rw [if_pos q1]⟩
 by_cases q2 : (l1.length : Int) > 1048576
 ·exact ⟨0, by unfold laws_FnExactIsReversible.f; rw [if_neg q1, if_pos q2]⟩
 by_cases q3 : (l2.length : Int) > 1048576
 ·exact ⟨0, by unfold laws_FnExactIsReversible.f; rw [if_neg q1, if_neg q2, if_pos q3]⟩
 by_cases q4 : (d.size : Int) > 1048576
 ·exact ⟨0, by unfold laws_FnExactIsReversible.f; rw [if_neg q1, if_neg q2, if_neg q3, if_pos q4]⟩
 obtain ⟨k1, g1⟩ := Zfk l1 (by omega)
 obtain ⟨k2, g2⟩ := Zfk l2 (by omega)
 obtain ⟨k3, g3⟩ := Zjd t d (by omega) (by omega) l1 l2
 obtain ⟨k4, g4⟩ := Zjm t d (by omega) (by omega) l1 l2
 obtain ⟨k5, g5⟩ := j0_ev l1 l2 (by omega) (by omega)
 have m : ∃ k, k1 ≤ k ∧ k2 ≤ k ∧ k3 ≤ k ∧ k4 ≤ k ∧ k5 ≤ k := ⟨k1 + k2 + k3 + k4 + k5, by omega, by omega, by omega, by omega, by omega⟩
 obtain ⟨k, m1, m2, m3, m4, m5⟩ := m
 refine ⟨k, ?_⟩
 unfold laws_FnExactIsReversible.f
 rw [if_neg q1, if_neg q2, if_neg q3, if_neg q4, show Zaw.f k l1 = some l1 from g1 k m1, show Zaw.f k l2 = some l2 from g2 k m2]
 simp only [Option.bind_some]
 rw [show Za0.f k t l1 l2 d = _ from g3 k m3, show Zbu.f k t l1 l2 d = _ from g4 k m4]
 simp only [Option.bind_some]
 rw [if_neg (by simp), show ((revR t.data.toList l1 l2 d.data.toList).2 != (revR t.data.toList l1 l2 d.data.toList).2) = false by simp]
 exact g5 k m5
end Go.Proofs.YtjohcjkidoalkaaGreatDoor.Plain
namespace Go.Proofs.YtjohcjkidoalkaaGreatDoor
theorem fnExactIsReversible_holds : Rows.FnExactIsReversibleCardSaid := fnExactIsReversible.carded Plain.Zks
end Go.Proofs.YtjohcjkidoalkaaGreatDoor
