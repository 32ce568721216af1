/- The program's AllStill returns what the reference's returns, for all arguments. No condition. -/
import Derived.Test.YtjohcjkidoalkaaGreatDoorAsJ
set_option linter.unusedVariables false
set_option linter.unusedSimpArgs false
namespace Go.Proofs.YtjohcjkidoalkaaGreatDoor.Plain
open Go.RowKit Go.Proofs.YtjohcjkidoalkaaGreatDoor.PA Go.PW.PrintWords Go.PW.PrintLast Go.PW.PrintMore
def consH (c : UInt8) : List (List UInt8) → List (List UInt8)
 | [] => [[c]]
 | r :: rs => (c :: r) :: rs
def Zbv : List UInt8 → List (List UInt8)
 | [] => [[]]
 | c :: cs => if c = 47 then [] :: Zbv cs else consH c (Zbv cs)
theorem Zee : ∀ l, Zbv l ≠ []
 | [] => by simp [Zbv]
 | c :: cs => by
  rw [Zbv]
  split
  ·simp
  ·cases Zbv cs <;> simp [consH]
theorem Zgr : ∀ l : List UInt8, l.count 47 = 0 → Zbv l = [l]
 | [], _ => rfl
 | c :: cs, h => by
  have hc : c ≠ 47 := by rintro rfl; simp at h
  have h2 : cs.count 47 = 0 := by rw [List.count_cons_of_ne hc] at h; exact h
  rw [Zbv, if_neg hc, Zgr cs h2, consH]
theorem Zgq : ∀ l : List UInt8, l.count 47 ≠ 0 → ∃ m : Nat, Lib.indexByte l 47 = m ∧ m < l.length ∧ Zbv l = l.take m :: Zbv (l.drop (m + 1)) ∧ (l.drop (m + 1)).count 47 + 1 = l.count 47
 | [], h => by simp at h
 | c :: cs, h => by
  by_cases hc : c = 47
  ·subst hc
   refine ⟨0, by simp [Lib.indexByte], by simp, by simp [Zbv], by simp⟩
  ·have e : (c :: cs).count 47 = cs.count 47 := List.count_cons_of_ne hc
   rw [e] at h
   obtain ⟨m, h1, h2, h3, h4⟩ := Zgq cs h
   refine ⟨m + 1, ?_, by simp only [List.length_cons]; omega, ?_, ?_⟩
   ·have hb : (c == 47) = false := by simpa using hc
    have hn : ((m : Int) == -1) = false := beq_eq_false_iff_ne.2 (by omega)
    rw [Lib.indexByte, hb, h1, hn]
    simp
   ·rw [Zbv, if_neg hc, h3, consH]; simp
   ·rw [e]; simpa using h4
theorem Zf1 : ∀ l : List UInt8, (Zbv l).length = l.count 47 + 1
 | [] => rfl
 | c :: cs => by
  have ih := Zf1 cs
  rw [Zbv]
  by_cases hc : c = 47
  ·rw [if_pos hc, List.length_cons, ih, hc]; simp
  ·rw [if_neg hc, List.count_cons_of_ne hc]
   have := Zee cs
   revert ih this
   cases Zbv cs with
   | nil => intro _ q; exact absurd rfl q
   | cons r rs => intro q _; simpa [consH] using q
def baOf (l : List UInt8) : ByteArray := ⟨l.toArray⟩
theorem Zfw (l : List UInt8) : (baOf l).data.toList = l := rfl
theorem Zmi (s : ByteArray) : baOf s.data.toList = s := Lib.mk_data s
theorem Zf0 : (⟨#[47]⟩ : ByteArray).size = 1 := rfl
theorem Zjr (s : ByteArray) : Zcx.f s ⟨#[47]⟩ = some (Lib.indexByte s.data.toList 47) := by
 unfold Zcx.f; rw [if_pos Zf0]; rfl
theorem Zju (s : ByteArray) : Zb0.f s ⟨#[47]⟩ = some ((s.data.toList.count 47 : Nat) : Int) := by
 unfold Zb0.f; rw [if_pos Zf0]; rfl
theorem mn_le (a b : Int) (h : a ≤ b) : mn a b = a := by unfold mn; omega
theorem Zhq (n : Nat) (hn : n < 4294967296) : ∀ (c i : Nat) (s : ByteArray) (done : List ByteArray), s.size < 4294967296 → s.data.toList.count 47 = c → i + c + 1 = n → done.length = i →
  Ev (fun k => Zax.l0 k s ⟨#[47]⟩ 0 ((n : Int) - 1) (done ++ List.replicate (n - i) ⟨#[]⟩) (i : Int)) (done ++ (Zbv s.data.toList).map baOf)
 | 0, i, s, done, hs, hc, hi, hd => by
  have hlen : (done ++ List.replicate (n - i) (⟨#[]⟩ : ByteArray)).length = n := by simp; omega
  refine Ev.shift (g := fun _ => some (done ++ (Zbv s.data.toList).map baOf)) (Ev.const rfl) (fun k => ?_)
  simp only [Zax.l0]
  rw [if_neg (by omega), if_pos (by omega), hlen, if_pos (by omega), Zcc i (by omega), if_pos (by omega), if_pos (by omega), Zgr _ hc, List.map_singleton, Zmi, Int.toNat_natCast, Int.toNat_natCast]
  congr 1
  rw [show n - i = 0 + 1 by omega, List.replicate_succ, List.replicate_zero, List.set_append_right _ _ (by omega), hd, Nat.sub_self, List.set_cons_zero, List.take_of_length_le (by simp only [List.length_append, List.length_singleton]; omega)]
 | c + 1, i, s, done, hs, hc, hi, hd => by
  have hlen : (done ++ List.replicate (n - i) (⟨#[]⟩ : ByteArray)).length = n := by simp; omega
  obtain ⟨m, h1, h2, h3, h4⟩ := Zgq s.data.toList (by omega)
  have hsz : s.size = s.data.toList.length := Lib.size_eq s
  have hdrop : (s.extract (m + 1) s.size).data.toList = s.data.toList.drop (m + 1) := by
   rw [Lib.extract_data, List.take_of_length_le (by rw [List.length_drop]; omega)]
  have htake : s.extract 0 m = baOf (s.data.toList.take m) := by rw [Lib.extract_eq]; rfl
  have ih := Zhq n hn c (i + 1) (s.extract (m + 1) s.size) (done ++ [baOf (s.data.toList.take m)]) (by rw [Lib.size_eq, hdrop, List.length_drop]; omega) (by rw [hdrop]; omega) (by omega) (by simp; omega)
  rw [hdrop] at ih
  refine Ev.shift (g := fun k => Zax.l0 k (s.extract (m + 1) s.size) ⟨#[47]⟩ 0 ((n : Int) - 1) (done ++ [baOf (s.data.toList.take m)] ++ List.replicate (n - (i + 1)) ⟨#[]⟩) ((i + 1 : Nat) : Int)) ?_ (fun k => ?_)
  ·rw [h3, List.map_cons]
   simpa using ih
  ·simp only [Zax.l0]
   rw [if_pos (by omega), Zjr, h1, Option.bind_some, if_neg (by omega), Int.add_zero, Zf0, Zc1 (x := (m : Int)) (by omega) (by omega), if_pos (by omega), if_pos (by omega), if_pos (by omega), hlen, if_pos (by omega),
    show (m : Int) + ((1 : Nat) : Int) = ((m + 1 : Nat) : Int) by omega, Zc1 (x := ((m + 1 : Nat) : Int)) (by omega) (by omega), if_pos (by omega), if_pos (by omega), Zcc i (by omega), Int.toNat_natCast, Int.toNat_natCast, Int.toNat_natCast, htake]
   congr 1
   rw [show n - i = (n - (i + 1)) + 1 by omega, List.replicate_succ, List.set_append_right _ _ (by omega), hd, Nat.sub_self, List.set_cons_zero]
   simp
theorem Zj4 (s : ByteArray) (hs : s.size < 4294967290) : Ev (fun k => Zcr.f k s ⟨#[47]⟩) ((Zbv s.data.toList).map baOf) := by
 have hsz : s.size = s.data.toList.length := Lib.size_eq s
 have hcl : s.data.toList.count 47 ≤ s.data.toList.length := List.count_le_length
 have main := Zhq (s.data.toList.count 47 + 1) (by omega) (s.data.toList.count 47) 0 s [] (by omega) rfl (by omega) rfl
 have g0 : Ev (fun k => Zax.j0 k s ⟨#[47]⟩ 0 ((s.data.toList.count 47 + 1 : Nat) : Int)) ((Zbv s.data.toList).map baOf) := by
  refine Ev.shift (g := fun k => Zax.l0 k s ⟨#[47]⟩ 0 (((s.data.toList.count 47 + 1 : Nat) : Int) - 1) (List.replicate (s.data.toList.count 47 + 1) ⟨#[]⟩) 0) (by simpa using main) (fun k => ?_)
  simp only [Zax.j0]
  rw [Zcc s.size (by omega), mn_le _ _ (by omega), if_pos (by omega), Int.toNat_natCast, if_pos (by omega), Zc1 (by omega) (by omega)]
 refine Ev.congr g0 (fun k => ?_)
 unfold Zcr.f Zax.f
 rw [if_neg (by omega), if_neg (by rw [Zeg]; simp), if_pos (by omega), Zju, Option.bind_some, Zcc _ (by omega)]
 cases Zax.j0 k s ⟨#[47]⟩ 0 ((s.data.toList.count 47 + 1 : Nat) : Int) <;> rfl
def okC (c : UInt8) : Bool := c == 35 || c == 46 || ballB (c.toNat : Int)
def Zch (l : List UInt8) : Nat := ((Zbv l).headD []).length
def Zb2 (l : List UInt8) : Nat := (Zbv l).length
def Zdy (l : List UInt8) : Bool := ([97, 98, 99, 100, 101, 102] : List UInt8).all fun c => decide (l.count c ≤ 1)
def Zd5 (w h : Nat) : Bool := decide (1 ≤ w) && decide (w ≤ 7) && decide (1 ≤ h) && decide (h ≤ 7) && decide (w * h ≤ 36)
def rowOk (w : Nat) (r : List UInt8) : Bool := decide (r.length = w) && r.all okC
def okT (l : List UInt8) : Bool := Zd5 (Zch l) (Zb2 l) && (Zbv l).all (rowOk (Zch l)) && Zdy l
def Zbg (l : List UInt8) : List Int := (Zbv l).flatten.map fun b => (b.toNat : Int)
theorem Zd2 (p : UInt8 → Bool) : ∀ l : List UInt8, l.dropWhile p = [] ↔ l.all p = true
 | [] => by simp
 | c :: cs => by
  rw [List.dropWhile_cons, List.all_cons]
  cases hc : p c
  ·simp
  ·simpa using Zd2 p cs
theorem Zlh (l cs : List UInt8) : Lib.trimS l cs = [] ↔ l.all (fun c => cs.contains c) = true := by
 unfold Lib.trimS Lib.trimLeftS Lib.trimRightS
 constructor
 ·intro h
  rw [Zd2] at h
  have hr : l.reverse.dropWhile (fun x => cs.contains x) = [] := by
   cases hq : l.reverse.dropWhile (fun x => cs.contains x) with
   | nil => rfl
   | cons a q =>
    have h1 : cs.contains a = true := by
     rw [hq, List.all_reverse, List.all_cons, Bool.and_eq_true] at h
     exact h.1
    have := List.head_dropWhile_not (p := fun x => cs.contains x) (l := l.reverse) (by rw [hq]; simp)
    simp only [hq, List.head_cons] at this
    rw [h1] at this
    cases this
  rw [Zd2, List.all_reverse] at hr
  exact hr
 ·intro h
  have hr : l.reverse.dropWhile (fun x => cs.contains x) = [] := by rw [Zd2, List.all_reverse]; exact h
  rw [hr]
  rfl
theorem Zje (s cut : ByteArray) (hs : s.size < 4294967296) (h1 : cut.size < 1000) (h2 : cut.data.toList.all (fun c => decide (c.toNat < 128)) = true) : ∃ t, Zca.f s cut = some t ∧ (t.toList = [] ↔ s.data.toList.all (fun c => cut.data.toList.contains c) = true) := by
 refine ⟨⟨(Lib.trimS s.data.toList cut.data.toList).toArray⟩, ?_, ?_⟩
 ·unfold Zca.f
  rw [if_pos ⟨by omega, h1, h2⟩]
 ·rw [Lib.toList_data]; exact Zlh _ _
theorem okC_cut : ∀ c : UInt8, ([35, 46, 111, 97, 98, 99, 100, 101, 102] : List UInt8).contains c = okC c := by
 have h : ∀ n : Nat, n < 256 → ([35, 46, 111, 97, 98, 99, 100, 101, 102] : List UInt8).contains (UInt8.ofNat n) = okC (UInt8.ofNat n) := by decide +kernel
 intro c
 have := h c.toNat c.toNat_lt
 rwa [UInt8.ofNat_toNat] at this
theorem Zl3 (w h : Nat) : Zcz.f w h = some (Zd5 w h) := by
 unfold Zcz.f Zcl.f Zd5
 by_cases h1 : 1 ≤ w
 ·by_cases h2 : w ≤ 7
  ·by_cases h3 : 1 ≤ h
   ·by_cases h4 : h ≤ 7
    ·have hm : w * h ≤ 49 := Nat.mul_le_mul h2 h4
     have e : wrap64 ((w : Int) * (h : Int)) = ((w * h : Nat) : Int) := by
      rw [← Int.natCast_mul, Zc1 (by omega) (by omega)]
     rw [e]
     simp only [h1, h2, h3, h4, decide_true, Bool.and_true, Bool.true_and]
     rw [if_pos (by omega)]
     simp only [Option.bind_some]
     rw [if_pos (by simp; omega), if_pos (by omega)]
     simp only [Option.bind_some]
     rw [if_pos (by simp; omega)]
     congr 1
     rw [decide_eq_decide]; omega
    ·rw [if_pos (by omega), if_pos (by omega)]
     simp [h1, h2, h3, h4] <;> omega
   ·rw [if_pos (by omega), if_neg (by omega)]
    simp [h1, h2, h3] <;> omega
  ·rw [if_pos (by omega)]
   simp [h1, h2] <;> omega
 ·rw [if_neg (by omega)]
  simp [h1]
theorem Zgu (L : List ByteArray) (j : Nat) (h : j < L.length) : rdOf ByteArray.empty L (j : Int) = L[j] := by
 simp [rdOf, List.getD_eq_getElem?_getD, List.getElem?_eq_getElem h]
theorem name_enc : ∀ n : Nat, n < 128 → (Utf8.encode (n : Int)) = ⟨#[UInt8.ofNat n]⟩ := by decide
theorem wrap32_n (j : Nat) (h : j < 1000) : wrap32 ((j : Int) + 1) = ((j + 1 : Nat) : Int) := by
 unfold wrap32; omega
theorem names_ev (t : ByteArray) : Ev (fun k => Zba.l1 k t 97) (Zdy t.data.toList) := by
 have step : ∀ (j : Nat) (r : Bool), 97 ≤ j → j ≤ 102 → (Ev (fun k => Zba.l1 k t ((j + 1 : Nat) : Int)) r) → Ev (fun k => Zba.l1 k t (j : Int)) (decide (t.data.toList.count (UInt8.ofNat j) ≤ 1) && r) := by
  intro j r h1 h2 hr
  have hc : Zb0.f t (Utf8.encode (j : Int)) = some ((t.data.toList.count (UInt8.ofNat j) : Nat) : Int) := by
   rw [name_enc j (by omega)]
   unfold Zb0.f
   rw [if_pos (show (⟨#[UInt8.ofNat j]⟩ : ByteArray).size = 1 from rfl)]
   rfl
  refine Ev.shift (g := fun k => if t.data.toList.count (UInt8.ofNat j) ≤ 1 then Zba.l1 k t ((j + 1 : Nat) : Int) else some false) ?_ (fun k => ?_)
  ·by_cases q : t.data.toList.count (UInt8.ofNat j) ≤ 1
   ·simp only [if_pos q, decide_eq_true q, Bool.true_and]; exact hr
   ·simp only [if_neg q, decide_eq_false q, Bool.false_and]; exact Ev.const rfl
  ·simp only [Zba.l1]
   rw [if_pos (by omega), hc, Option.bind_some, wrap32_n j (by omega)]
   by_cases q : t.data.toList.count (UInt8.ofNat j) ≤ 1
   ·rw [if_neg (by omega), if_pos q]
   ·rw [if_pos (by omega), if_neg q]
 have last : Ev (fun k => Zba.l1 k t ((103 : Nat) : Int)) true := by
  refine Ev.shift (g := fun _ => some true) (Ev.const rfl) (fun k => ?_)
  simp only [Zba.l1]
  rw [if_neg (by omega)]
 have h := step 97 _ (by omega) (by omega) (step 98 _ (by omega) (by omega) (step 99 _ (by omega) (by omega) (step 100 _ (by omega) (by omega) (step 101 _ (by omega) (by omega) (step 102 _ (by omega) (by omega) last)))))
 have e : Zdy t.data.toList = (decide (t.data.toList.count (UInt8.ofNat 97) ≤ 1) && (decide (t.data.toList.count (UInt8.ofNat 98) ≤ 1) && (decide (t.data.toList.count (UInt8.ofNat 99) ≤ 1) && (decide (t.data.toList.count (UInt8.ofNat 100) ≤ 1) && (decide (t.data.toList.count (UInt8.ofNat 101) ≤ 1) && (decide (t.data.toList.count (UInt8.ofNat 102) ≤ 1) && true)))))) := rfl
 rw [e]
 exact h
theorem Zlo (t : ByteArray) (L : List ByteArray) (hL : L.length < 4294967296) (h0 : 0 < L.length) (hs : ∀ r ∈ L, r.size < 4294967296) : ∀ (m j : Nat), j + m = L.length →
  Ev (fun k => Zba.l0 k t L L (L.length : Int) (j : Int)) ((L.drop j).all (fun r => rowOk L[0].size r.data.toList) && Zdy t.data.toList)
 | 0, j, hj => by
  rw [List.drop_eq_nil_of_le (by omega), List.all_nil, Bool.true_and]
  refine Ev.shift (names_ev t) (fun k => ?_)
  simp only [Zba.l0]
  rw [if_neg (by omega)]
 | m + 1, j, hj => by
  have hlt : j < L.length := by omega
  have ih := Zlo t L hL h0 hs m (j + 1) (by omega)
  obtain ⟨tr, ht1, ht2⟩ := Zje L[j] ⟨#[35, 46, 111, 97, 98, 99, 100, 101, 102]⟩ (hs _ (List.getElem_mem _)) (by decide) (by decide)
  have hsz : L[j].size = L[j].data.toList.length := Lib.size_eq _
  have e2 : (tr.toList = []) ↔ L[j].data.toList.all okC = true := by
   rw [ht2]
   have : ∀ l : List UInt8, l.all (fun c => ([35, 46, 111, 97, 98, 99, 100, 101, 102] : List UInt8).contains c) = l.all okC := by
    intro l; congr 1; funext c; exact okC_cut c
   rw [← this]
  rw [Zcg L j hlt, List.all_cons, Bool.and_assoc]
  refine Ev.shift (g := fun k => if L[j].size = L[0].size then (if tr.toList = [] then Zba.l0 k t L L (L.length : Int) ((j + 1 : Nat) : Int) else some false) else some false) ?_ (fun k => ?_)
  ·by_cases q1 : L[j].size = L[0].size
   ·by_cases q2 : tr.toList = []
    ·have e : rowOk L[0].size L[j].data.toList = true := by
      unfold rowOk; rw [← hsz, decide_eq_true q1, e2.1 q2]; rfl
     simp only [if_pos q1, if_pos q2, e, Bool.true_and]
     exact ih
    ·have e : rowOk L[0].size L[j].data.toList = false := by
      unfold rowOk
      cases q3 : L[j].data.toList.all okC
      ·simp
      ·exact absurd (e2.2 q3) q2
     simp only [if_pos q1, if_neg q2, e, Bool.false_and]
     exact Ev.const rfl
   ·have e : rowOk L[0].size L[j].data.toList = false := by
     unfold rowOk; rw [← hsz, decide_eq_false q1]; rfl
    simp only [if_neg q1, e, Bool.false_and]
    exact Ev.const rfl
  ·simp only [Zba.l0]
   rw [if_pos (by omega), if_pos (by omega), if_pos (by omega), if_pos (by omega), Zgu L j hlt, show (0 : Int) = ((0 : Nat) : Int) from rfl, Zgu L 0 h0, ht1, Option.bind_some, Zcc j (by omega)]
   by_cases q1 : L[j].size = L[0].size
   ·rw [if_pos (by omega), if_pos q1]
   ·rw [if_neg (by omega), if_neg q1]
theorem Zf9 : ∀ (l : List UInt8), ∀ r ∈ Zbv l, r.length ≤ l.length
 | [], r, h => by simp [Zbv] at h; simp [h]
 | c :: cs, r, h => by
  have ih := Zf9 cs
  rw [Zbv] at h
  split at h
  ·rcases List.mem_cons.1 h with q | q
   ·simp [q]
   ·have := ih r q; simp only [List.length_cons]; omega
  ·have hne := Zee cs
   revert h ih hne
   cases Zbv cs with
   | nil => intro _ _ q; exact absurd rfl q
   | cons a tl =>
    intro ih h _
    rcases List.mem_cons.1 h with q | q
    ·have := ih a List.mem_cons_self; rw [q]; simp only [List.length_cons]; omega
    ·have := ih r (List.mem_cons_of_mem _ q); simp only [List.length_cons]; omega
theorem Zke (L : List (List UInt8)) (h : 0 < L.length) : (L[0]'h).length = (L.headD []).length := by
 cases L with
 | nil => simp at h
 | cons r rs => rfl
theorem Zmn (t : ByteArray) (ht : t.size < 4294967290) : Ev (fun k => Zba.f k t) (okT t.data.toList) := by
 have hsz : t.size = t.data.toList.length := Lib.size_eq t
 have hcl : t.data.toList.count 47 ≤ t.data.toList.length := List.count_le_length
 have hlen : ((Zbv t.data.toList).map baOf).length = Zb2 t.data.toList := by rw [List.length_map]; rfl
 have hH : Zb2 t.data.toList = t.data.toList.count 47 + 1 := Zf1 _
 have h0 : 0 < ((Zbv t.data.toList).map baOf).length := by omega
 have hW : ((Zbv t.data.toList).map baOf)[0].size = Zch t.data.toList := by
  unfold Zch
  rw [List.getElem_map, Lib.size_eq, Zfw]
  exact Zke _ _
 have main := Zlo t ((Zbv t.data.toList).map baOf) (by omega) h0 (fun r hr => by
  obtain ⟨x, hx, rfl⟩ := List.mem_map.1 hr
  have := Zf9 _ x hx
  rw [Lib.size_eq, Zfw]; omega) _ 0 (Nat.zero_add _)
 refine Ev.bind (g := fun k t101 => if 0 < (t101.length : Int) then ((Zcz.f ((rdOf ByteArray.empty t101 0).size : Int) (t101.length : Int)).bind fun t105 => (if t105 = true then (Zba.l0 k t t101 t101 (t101.length : Int) 0) else (some false))) else none) (Zj4 t ht) ?_
 have hr0 : rdOf ByteArray.empty ((Zbv t.data.toList).map baOf) 0 = ((Zbv t.data.toList).map baOf)[0] := Zgu _ 0 h0
 refine Ev.congr (g := fun k => if Zd5 (Zch t.data.toList) (Zb2 t.data.toList) = true then Zba.l0 k t ((Zbv t.data.toList).map baOf) ((Zbv t.data.toList).map baOf) ((((Zbv t.data.toList).map baOf).length : Nat) : Int) 0 else some false) ?_ (fun k => ?_)
 ·unfold okT
  cases Zd5 (Zch t.data.toList) (Zb2 t.data.toList)
  ·exact Ev.const rfl
  ·refine Ev.congr (g := fun k => Zba.l0 k t ((Zbv t.data.toList).map baOf) ((Zbv t.data.toList).map baOf) ((((Zbv t.data.toList).map baOf).length : Nat) : Int) ((0 : Nat) : Int)) ?_ (fun k => rfl)
   rw [hW, List.drop_zero, List.all_map] at main
   simpa [Function.comp_def, Zfw] using main
 ·rw [if_pos (by omega), hr0, hW, hlen, Zl3, Option.bind_some]
theorem Zls (t : ByteArray) (ht : t.size < 4294967290) : Ev (fun k => Zcs.f k t) ((Zch t.data.toList : Nat), (Zb2 t.data.toList : Nat), Zbg t.data.toList) := by
 have hsz : t.size = t.data.toList.length := Lib.size_eq t
 have hcl : t.data.toList.count 47 ≤ t.data.toList.length := List.count_le_length
 have hlen : ((Zbv t.data.toList).map baOf).length = Zb2 t.data.toList := by rw [List.length_map]; rfl
 have hH : Zb2 t.data.toList = t.data.toList.count 47 + 1 := Zf1 _
 have h0 : 0 < ((Zbv t.data.toList).map baOf).length := by omega
 have hW : ((Zbv t.data.toList).map baOf)[0].size = Zch t.data.toList := by
  unfold Zch
  rw [List.getElem_map, Lib.size_eq, Zfw]
  exact Zke _ _
 have hr0 : rdOf ByteArray.empty ((Zbv t.data.toList).map baOf) 0 = ((Zbv t.data.toList).map baOf)[0] := Zgu _ 0 h0
 have flat : ∀ l : List UInt8, (Zbv l).flatten.length ≤ l.length := by
  intro l
  induction l with
  | nil => simp [Zbv]
  | cons c cs ih =>
   rw [Zbv]
   split
   ·simp only [List.flatten_cons, List.nil_append, List.length_cons]; omega
   ·revert ih
    cases Zbv cs with
    | nil => intro _; simp [consH]
    | cons r rs => intro ih; simp only [consH, List.flatten_cons, List.length_append, List.length_cons] at ih ⊢; omega
 have jn : ∀ L : List (List UInt8), Lib.join L [] = L.flatten := by
  intro L
  cases L with
  | nil => rfl
  | cons r rs => rw [Lib.join_cons]; simp [Lib.joinTail]
 have hj : strings_Join.f ((Zbv t.data.toList).map baOf) ⟨#[]⟩ = some (baOf (Zbv t.data.toList).flatten) := by
  unfold strings_Join.f
  have e : ((Zbv t.data.toList).map baOf).map (fun s => s.data.toList) = Zbv t.data.toList := by
   rw [List.map_map]; exact List.map_id' _
  have := flat t.data.toList
  rw [e, show (⟨#[]⟩ : ByteArray).data.toList = [] from rfl, jn, if_pos ⟨by omega, by omega⟩]
  rfl
 refine Ev.bind (g := fun k rows => if 0 < rows.length then (strings_Join.f rows (⟨#[]⟩ : ByteArray)).bind fun s => some (((rdOf ByteArray.empty rows 0).size : Int), (rows.length : Int), Zc7 s) else none) (Zj4 t ht) (Ev.const ?_)
 rw [if_pos h0, hj, Option.bind_some, hr0, hW, hlen]
 rfl
def scanT : Nat → Nat → Nat → List Int → List UInt8 → Option (Nat × Nat × List Int)
 | x, gw, gh, cells, [] => if x = 0 ∨ (0 < gh ∧ x ≠ gw) then none else some (x, gh + 1, cells)
 | x, gw, gh, cells, c :: cs => if c = 47 then (if x = 0 ∨ (0 < gh ∧ x ≠ gw) then none else scanT 0 x (gh + 1) cells cs) else if okC c = true then scanT (x + 1) gw gh (cells ++ [(c.toNat : Int)]) cs else none
theorem Zgp : ∀ (l : List UInt8) (x gw gh : Nat) (cells : List Int) (r : List UInt8) (rs : List (List UInt8)), Zbv l = r :: rs →
  scanT x gw gh cells l = if r.all okC = true ∧ (∀ q ∈ rs, rowOk (x + r.length) q = true) ∧ x + r.length ≠ 0 ∧ (gh = 0 ∨ x + r.length = gw) then some (x + r.length, gh + 1 + rs.length, cells ++ (r ++ rs.flatten).map fun b => (b.toNat : Int)) else none
 | [], x, gw, gh, cells, r, rs, h => by
  obtain ⟨rfl, rfl⟩ := List.cons.inj (show [[]] = r :: rs from h)
  rw [scanT]
  by_cases q : x = 0 ∨ (0 < gh ∧ x ≠ gw)
  ·rw [if_pos q, if_neg (by simp; omega)]
  ·rw [if_neg q, if_pos ⟨rfl, by simp, by simp; omega, by simp; omega⟩]
   simp
 | c :: cs, x, gw, gh, cells, r, rs, h => by
  rw [Zbv] at h
  rw [scanT]
  cases hr : Zbv cs with
  | nil => exact absurd hr (Zee _)
  | cons r2 rs2 =>
  rw [hr] at h
  by_cases hc : c = 47
  ·rw [if_pos hc] at h ⊢
   obtain ⟨rfl, rfl⟩ := List.cons.inj h
   by_cases q : x = 0 ∨ (0 < gh ∧ x ≠ gw)
   ·rw [if_pos q, if_neg (by rintro ⟨_, _, h3, h4⟩; simp at h3 h4; omega)]
   ·rw [if_neg q, Zgp cs 0 x (gh + 1) cells r2 rs2 hr]
    by_cases p : r2.all okC = true ∧ (∀ q ∈ rs2, rowOk (0 + r2.length) q = true) ∧ 0 + r2.length ≠ 0 ∧ (gh + 1 = 0 ∨ 0 + r2.length = x)
    ·obtain ⟨p1, p2, p3, p4⟩ := p
     have e : r2.length = x := by omega
     rw [if_pos ⟨p1, p2, p3, p4⟩, if_pos ?_]
     ·rw [e]; simp [Nat.add_assoc]; omega
     ·refine ⟨rfl, ?_, by simp; omega, by simp; omega⟩
      intro q' hq'
      rcases List.mem_cons.1 hq' with rfl | hq'
      ·unfold rowOk; rw [p1, decide_eq_true (by simp; omega)]; rfl
      ·have := p2 q' hq'; rw [e, Nat.zero_add] at this; simpa using this
    ·rw [if_neg p, if_neg ?_]
     rintro ⟨_, h2, h3, h4⟩
     apply p
     have e := h2 r2 List.mem_cons_self
     unfold rowOk at e
     rw [Bool.and_eq_true, decide_eq_true_eq] at e
     simp only [List.length_nil, Nat.add_zero] at e h3 h4 h2
     refine ⟨e.2, fun q' hq' => ?_, by omega, by omega⟩
     have := h2 q' (List.mem_cons_of_mem _ hq')
     rw [Nat.zero_add, e.1]; exact this
  ·rw [if_neg hc] at h ⊢
   obtain ⟨rfl, rfl⟩ := List.cons.inj (show (c :: r2) :: rs2 = r :: rs from h)
   cases ho : okC c
   ·rw [if_neg (by simp), if_neg (by simp [ho])]
   ·rw [if_pos rfl, Zgp cs (x + 1) gw gh _ r2 rs2 hr]
    have e : x + 1 + r2.length = x + (c :: r2).length := by simp; omega
    rw [e, List.all_cons, ho, Bool.true_and]
    simp
def nameI (c : Int) : Bool := decide (97 ≤ c) && decide (c ≤ 102)
def clash (cells : List Int) (i j : Nat) : Bool := rd cells i == rd cells j && nameI (rd cells i)
def Ze0 (cells : List Int) (i n : Nat) : Prop := ∀ i', i ≤ i' → i' < n → ∀ j, j < i' → clash cells i' j = false
def failR : Int × Int × List Int × Bool := (0, 0, [], false)
open Classical in
theorem dup_ev (w h : Int) (cells : List Int) (hl : cells.length ≤ 1000) : ∀ (m i : Nat), i + m = cells.length →
  Ev (fun k => Zas.l1 k cells (cells.length : Int) (i : Int) w h cells) (if Ze0 cells i cells.length then (w, h, cells, true) else failR) := by
 intro m
 induction m with
 | zero =>
  intro i hi
  refine Ev.shift (g := fun _ => some (if Ze0 cells i cells.length then (w, h, cells, true) else failR)) (Ev.const rfl) (fun k => ?_)
  simp only [Zas.l1]
  rw [if_neg (by omega), if_pos (by intro i' h1 h2; omega)]
 | succ m ih =>
  intro i hi
  have hlt : i < cells.length := by omega
  have htl : (cells.take i).length = i := by rw [List.length_take]; omega
  have inner : ∀ (m2 j : Nat), j + m2 = i → (∀ j', j' < j → clash cells i j' = false) → Ev (fun k => Zas.l2 k (rd cells i) cells (cells.length : Int) (i : Int) (cells.take i) (i : Int) (j : Int) w h cells) (if Ze0 cells i cells.length then (w, h, cells, true) else failR) := by
   intro m2
   induction m2 with
   | zero =>
    intro j hj hc
    have e : Ze0 cells i cells.length ↔ Ze0 cells (i + 1) cells.length := by
     constructor
     ·intro q i' h1 h2; exact q i' (by omega) h2
     ·intro q i' h1 h2 j' h3
      by_cases e : i' = i
      ·subst e; exact hc j' (by omega)
      ·exact q i' (by omega) h2 j' h3
    refine Ev.shift (g := fun k => Zas.l1 k cells (cells.length : Int) ((i + 1 : Nat) : Int) w h cells) ?_ (fun k => ?_)
    ·have := ih (i + 1) (by omega)
     by_cases q : Ze0 cells i cells.length
     ·rw [if_pos (e.1 q)] at this; rw [if_pos q]; exact this
     ·rw [if_neg (fun r => q (e.2 r))] at this; rw [if_neg q]; exact this
    ·simp only [Zas.l2]
     rw [if_neg (by omega), Zcc i (by omega)]
   | succ m2 ih2 =>
    intro j hj hc
    have hjt : j < (cells.take i).length := by omega
    have hrd : rd (cells.take i) (j : Int) = rd cells j := by
     rw [rd_n _ j hjt, rd_n cells j (by omega), List.getElem_take]
    cases hcl : clash cells i j with
    | true =>
     have hn : ¬ Ze0 cells i cells.length := by
      intro q
      have := q i (by omega) hlt j (by omega)
      rw [hcl] at this; cases this
     rw [if_neg hn]
     refine Ev.shift (g := fun _ => some failR) (Ev.const rfl) (fun k => ?_)
     simp only [clash, nameI, Bool.and_eq_true, beq_iff_eq, decide_eq_true_eq] at hcl
     simp only [Zas.l2]
     rw [if_pos (by omega), if_pos (by omega), if_pos (by omega), hrd, if_pos hcl.1, if_pos (by omega), if_pos (by omega)]
     rfl
    | false =>
     refine Ev.shift (ih2 (j + 1) (by omega) (fun j' hj' => ?_)) (fun k => ?_)
     ·by_cases e : j' = j
      ·subst e; exact hcl
      ·exact hc j' (by omega)
     ·simp only [Zas.l2]
      rw [if_pos (by omega), if_pos (by omega), if_pos (by omega), hrd, Zcc j (by omega)]
      simp only [clash, nameI] at hcl
      by_cases e1 : rd cells i = rd cells j
      ·rw [if_pos e1]
       by_cases e2 : rd cells i ≥ 97
       ·rw [if_pos e2]
        by_cases e3 : rd cells i ≤ 102
        ·exfalso
         rw [decide_eq_true e3, decide_eq_true (show (97 : Int) ≤ rd cells i from e2), beq_iff_eq.2 e1] at hcl
         simp at hcl
        ·rw [if_neg e3]
       ·rw [if_neg e2]
      ·rw [if_neg e1]
  refine Ev.shift (inner i 0 (by omega) (by omega)) (fun k => ?_)
  simp only [Zas.l1]
  rw [if_pos (by omega), if_pos (by omega), if_pos (by omega), if_pos (by omega), Option.bind_some, Int.toNat_natCast, htl]
  rfl
theorem Zfi (c : Int) : ∀ l : List Int, (∀ i, i < l.length → ∀ j, j < i → ¬ (rd l i = c ∧ rd l j = c)) ↔ l.count c ≤ 1
 | [] => by simp
 | a :: l => by
  have ih := Zfi c l
  have e1 : ∀ i : Nat, rd (a :: l) ((i + 1 : Nat) : Int) = rd l i := fun i => by simp [rd]
  have e0 : rd (a :: l) ((0 : Nat) : Int) = a := by simp [rd]
  by_cases h : a = c
  ·subst h
   rw [List.count_cons_self]
   constructor
   ·intro q
    have : l.count a = 0 := by
     rw [List.count_eq_zero]
     intro hm
     obtain ⟨n, hn, he⟩ := List.getElem_of_mem hm
     refine q (n + 1) (by simp; omega) 0 (by omega) ⟨?_, e0⟩
     rw [e1, rd_n l n hn, he]
    omega
   ·intro q i hi j hj
    have h0 : l.count a = 0 := by omega
    rw [List.count_eq_zero] at h0
    rintro ⟨h1, _⟩
    obtain ⟨n, rfl⟩ : ∃ n, i = n + 1 := ⟨i - 1, by omega⟩
    have hn : n < l.length := by simp at hi; omega
    rw [e1, rd_n l n hn] at h1
    exact h0 (h1 ▸ List.getElem_mem _)
  ·rw [List.count_cons_of_ne h, ← ih]
   constructor
   ·intro q i hi j hj
    have := q (i + 1) (by simp; omega) (j + 1) (by omega)
    rw [e1, e1] at this; exact this
   ·intro q i hi j hj
    rintro ⟨h1, h2⟩
    cases j with
    | zero => rw [e0] at h2; exact h h2
    | succ j =>
     obtain ⟨n, rfl⟩ : ∃ n, i = n + 1 := ⟨i - 1, by omega⟩
     rw [e1] at h1 h2
     exact q n (by simp at hi; omega) j (by omega) ⟨h1, h2⟩
theorem Zd6 : ∀ l : List UInt8, (Zbv l).flatten = l.filter fun c => c != 47
 | [] => rfl
 | c :: cs => by
  have ih := Zd6 cs
  rw [Zbv, List.filter_cons]
  by_cases hc : c = 47
  ·rw [if_pos hc]; simpa [hc] using ih
  ·rw [if_neg hc, if_pos (by simpa using hc), ← ih]
   cases hr : Zbv cs with
   | nil => exact absurd hr (Zee _)
   | cons r rs => simp [consH]
theorem Zdm (l : List UInt8) (c : UInt8) (hc : c ≠ 47) : (Zbg l).count (c.toNat : Int) = l.count c := by
 unfold Zbg
 rw [Zd6]
 induction l with
 | nil => rfl
 | cons a l ih =>
  rw [List.filter_cons]
  by_cases ha : a = c
  ·subst ha
   rw [if_pos (by simpa using hc), List.map_cons, List.count_cons_self, List.count_cons_self, ih]
  ·rw [List.count_cons_of_ne ha]
   split
   ·rw [List.map_cons, List.count_cons_of_ne (by intro e; exact ha (UInt8.toNat_inj.1 (by omega))), ih]
   ·exact ih
theorem Zgv (l : List UInt8) : Ze0 (Zbg l) 0 (Zbg l).length ↔ Zdy l = true := by
 have e : Zdy l = true ↔ ∀ n : Nat, 97 ≤ n → n ≤ 102 → (Zbg l).count (n : Int) ≤ 1 := by
  unfold Zdy
  simp only [List.all_cons, List.all_nil, Bool.and_true, Bool.and_eq_true, decide_eq_true_eq]
  rw [← Zdm l 97 (by decide), ← Zdm l 98 (by decide), ← Zdm l 99 (by decide), ← Zdm l 100 (by decide), ← Zdm l 101 (by decide), ← Zdm l 102 (by decide)]
  constructor
  ·rintro ⟨h1, h2, h3, h4, h5, h6⟩ n ha hb
   have : n = 97 ∨ n = 98 ∨ n = 99 ∨ n = 100 ∨ n = 101 ∨ n = 102 := by omega
   rcases this with rfl | rfl | rfl | rfl | rfl | rfl
   ·exact h1
   ·exact h2
   ·exact h3
   ·exact h4
   ·exact h5
   ·exact h6
  ·intro h
   exact ⟨h 97 (by omega) (by omega), h 98 (by omega) (by omega), h 99 (by omega) (by omega), h 100 (by omega) (by omega), h 101 (by omega) (by omega), h 102 (by omega) (by omega)⟩
 rw [e]
 constructor
 ·intro q n ha hb
  rw [← Zfi]
  rintro i hi j hj ⟨h1, h2⟩
  have := q i (by omega) hi j hj
  simp [clash, nameI, h1, h2] at this
  omega
 ·intro q i' _ hi j hj
  cases hc : clash (Zbg l) i' j with
  | false => rfl
  | true =>
   exfalso
   simp only [clash, nameI, Bool.and_eq_true, beq_iff_eq, decide_eq_true_eq] at hc
   obtain ⟨n, hn⟩ : ∃ n : Nat, rd (Zbg l) i' = n := ⟨(rd (Zbg l) i').toNat, by omega⟩
   have := (Zfi (n : Int) (Zbg l)).2 (q n (by omega) (by omega)) i' hi j hj
   exact this ⟨hn, by rw [← hc.1, hn]⟩
theorem bt_n (t : ByteArray) (i : Nat) (h : i < t.data.toList.length) : bt t (i : Int) = (t.data.toList[i].toNat : Int) := by
 have hs : i < t.size := by rw [Lib.size_eq]; exact h
 unfold bt
 rw [dif_pos (by simpa using hs)]
 rfl
theorem Zle (c : UInt8) : Zdw.f (c.toNat : Int) = some (okC c) := by
 unfold Zdw.f okC
 rw [Zg9]
 have e1 : ((c.toNat : Nat) : Int) = 35 ↔ c = 35 := by
  constructor
  ·intro h; exact UInt8.toNat_inj.1 (by show c.toNat = 35; omega)
  ·rintro rfl; rfl
 have e2 : ((c.toNat : Nat) : Int) = 46 ↔ c = 46 := by
  constructor
  ·intro h; exact UInt8.toNat_inj.1 (by show c.toNat = 46; omega)
  ·rintro rfl; rfl
 by_cases h1 : c = 35
 ·rw [if_pos (e1.2 h1)]; simp [h1]
 ·rw [if_neg (fun q => h1 (e1.1 q))]
  by_cases h2 : c = 46
  ·rw [if_pos (e2.2 h2)]; simp [h2]
  ·rw [if_neg (fun q => h2 (e2.1 q))]; simp [h1, h2]
theorem scan_ev (t : ByteArray) (hsz : t.data.toList.length ≤ 42) (R : Int × Int × List Int × Bool) : ∀ (rest : List UInt8) (i x gw gh : Nat) (cells : List Int), t.data.toList.drop i = rest → i + rest.length = t.data.toList.length → x ≤ i → gh ≤ i → cells.length ≤ i →
  (∀ w h cs, scanT x gw gh cells rest = some (w, h, cs) → Ev (fun k => Zas.l0 k t 0 ((t.data.toList.length + 1 : Nat) : Int) w h cs) R) → (scanT x gw gh cells rest = none → R = failR) →
  Ev (fun k => Zas.l0 k t (x : Int) (i : Int) (gw : Int) (gh : Int) cells) R := by
 have hts : t.size = t.data.toList.length := Lib.size_eq t
 have slash : ∀ (i x gw gh : Nat) (cells : List Int), i ≤ 42 → x ≤ i → gh ≤ i → (¬ (x = 0 ∨ (0 < gh ∧ x ≠ gw)) → Ev (fun k => Zas.l0 k t 0 ((i + 1 : Nat) : Int) (x : Int) ((gh + 1 : Nat) : Int) cells) R) → (x = 0 ∨ (0 < gh ∧ x ≠ gw) → R = failR) →
   Ev (fun k => Zas.j1 k t (x : Int) (i : Int) false (gw : Int) (gh : Int) cells) R := by
  intro i x gw gh cells hi hx hg h1 h2
  by_cases q : x = 0 ∨ (0 < gh ∧ x ≠ gw)
  ·rw [h2 q]
   refine Ev.shift (g := fun _ => some failR) (Ev.const rfl) (fun k => ?_)
   simp only [Zas.j1]
   rw [if_neg (by simp)]
   by_cases p : (gh : Int) > 0
   ·rw [if_pos p]
    by_cases p2 : (x : Int) = (gw : Int)
    ·rw [if_pos p2, if_pos (by omega)]; rfl
    ·rw [if_neg p2]; rfl
   ·rw [if_neg p, if_pos (by omega)]; rfl
  ·refine Ev.shift (h1 q) (fun k => ?_)
   simp only [Zas.j1]
   rw [if_neg (by simp), Zcc i (by omega), Zcc gh (by omega)]
   by_cases p : (gh : Int) > 0
   ·rw [if_pos p, if_pos (by omega), if_neg (by omega)]
   ·rw [if_neg p, if_neg (by omega)]
 intro rest
 induction rest with
 | nil =>
  intro i x gw gh cells hd hi hx hg hc h1 h2
  have e : i = t.data.toList.length := by simpa using hi
  rw [scanT] at h1 h2
  refine Ev.shift (slash i x gw gh cells (by omega) hx hg (fun q => ?_) (fun q => h2 (by rw [if_pos q]))) (fun k => ?_)
  ·have := h1 x (gh + 1) cells (by rw [if_neg q])
   rw [e]; exact this
  ·simp only [Zas.l0]
   rw [if_pos (by omega), if_neg (by omega)]
 | cons c cs ih =>
  intro i x gw gh cells hd hi hx hg hc h1 h2
  have hlt : i < t.data.toList.length := by simp at hi; omega
  rw [Zcg _ i hlt] at hd
  obtain ⟨rfl, hd2⟩ := List.cons.inj hd
  have hb := bt_n t i hlt
  rw [scanT] at h1 h2
  by_cases h47 : t.data.toList[i] = 47
  ·rw [if_pos h47] at h1 h2
   refine Ev.shift (slash i x gw gh cells (by omega) hx hg (fun q => ?_) (fun q => h2 (by rw [if_pos q]))) (fun k => ?_)
   ·rw [if_neg q] at h1 h2
    exact ih (i + 1) 0 x (gh + 1) cells hd2 (by simp at hi; omega) (by omega) (by omega) (by omega) h1 h2
   ·simp only [Zas.l0]
    rw [if_pos (by omega), if_pos (by omega), if_pos (by omega), hb, h47]
    rfl
  ·rw [if_neg h47] at h1 h2
   have hne : ((t.data.toList[i].toNat : Int) != 47) = true := by
    rw [bne_iff_ne]
    intro q
    exact h47 (UInt8.toNat_inj.1 (by show t.data.toList[i].toNat = 47; omega))
   refine Ev.shift (g := fun k => Zas.j1 k t (x : Int) (i : Int) true (gw : Int) (gh : Int) cells) ?_ (fun k => ?_)
   ·cases ho : okC t.data.toList[i] with
    | false =>
     rw [ho, if_neg (by simp)] at h2
     rw [h2 rfl]
     refine Ev.shift (g := fun _ => some failR) (Ev.const rfl) (fun k => ?_)
     simp only [Zas.j1]
     rw [if_pos trivial, if_pos (by omega), if_pos (by omega), hb, Zle, ho]
     rfl
    | true =>
     rw [ho, if_pos rfl] at h1 h2
     refine Ev.shift (ih (i + 1) (x + 1) gw gh (cells ++ [(t.data.toList[i].toNat : Int)]) hd2 (by simp at hi; omega) (by omega) (by omega) (by simp; omega) h1 h2) (fun k => ?_)
     simp only [Zas.j1]
     rw [if_pos trivial, if_pos (by omega), if_pos (by omega), hb, Zle, ho, Option.bind_some, if_pos rfl, if_pos (show cells.length < 140737488355328 by omega), Zcc x (by omega), Zcc i (by omega)]
   ·simp only [Zas.l0]
    rw [if_pos (by omega), if_pos (by omega), if_pos (by omega), hb, hne]
theorem Zkc : ∀ l : List UInt8, l.length + 1 = (Zbv l).flatten.length + (Zbv l).length
 | [] => rfl
 | c :: cs => by
  have ih := Zkc cs
  rw [Zbv]
  split
  ·simp only [List.flatten_cons, List.nil_append, List.length_cons]; omega
  ·cases hr : Zbv cs with
   | nil => exact absurd hr (Zee _)
   | cons r rs =>
    rw [hr] at ih
    simp only [consH, List.flatten_cons, List.length_append, List.length_cons] at ih ⊢
    omega
theorem Zii (w : Nat) : ∀ L : List (List UInt8), (∀ r ∈ L, r.length = w) → L.flatten.length = w * L.length
 | [], _ => by simp
 | r :: L, h => by
  have h1 := Zii w L (fun r hr => h r (List.mem_cons_of_mem _ hr))
  have h2 := h r List.mem_cons_self
  rw [List.flatten_cons, List.length_append, h1, h2, List.length_cons, Nat.mul_succ]; omega
structure TrayT (l : List UInt8) : Prop where
 w0 : 0 < Zch l
 w7 : Zch l ≤ 7
 h0 : 0 < Zb2 l
 h7 : Zb2 l ≤ 7
 wh : Zch l * Zb2 l ≤ 36
 rows : ∀ r ∈ Zbv l, r.length = Zch l ∧ r.all okC = true
 names : Zdy l = true
 len : (Zbg l).length = Zch l * Zb2 l
 size : l.length ≤ 42
theorem Zen (l : List UInt8) (h : okT l = true) : TrayT l := by
 unfold okT Zd5 at h
 simp only [Bool.and_eq_true, decide_eq_true_eq, List.all_eq_true] at h
 obtain ⟨⟨⟨⟨⟨⟨h1, h2⟩, h3⟩, h4⟩, h5⟩, h6⟩, h7⟩ := h
 have hr : ∀ r ∈ Zbv l, r.length = Zch l ∧ r.all okC = true := by
  intro r hr
  have := h6 r hr
  unfold rowOk at this
  rw [Bool.and_eq_true, decide_eq_true_eq] at this
  exact this
 have hf := Zii (Zch l) (Zbv l) (fun r q => (hr r q).1)
 have hlen : (Zbg l).length = Zch l * Zb2 l := by unfold Zbg Zb2; rw [List.length_map, hf]
 have hl := Zkc l
 refine ⟨by omega, h2, by omega, h4, h5, hr, h7, hlen, ?_⟩
 have : (Zbv l).length = Zb2 l := rfl
 have e : (Zbv l).flatten.length = Zch l * Zb2 l := hf
 omega
theorem Zld (t : ByteArray) (ht : t.size < 4294967290) : Ev (fun k => Zas.f k t) (if okT t.data.toList = true then ((Zch t.data.toList : Nat), (Zb2 t.data.toList : Nat), Zbg t.data.toList, true) else failR) := by
 have hts : t.size = t.data.toList.length := Lib.size_eq t
 by_cases hs : t.data.toList.length ≤ 42
 ·refine Ev.congr (g := fun k => Zas.l0 k t ((0 : Nat) : Int) ((0 : Nat) : Int) ((0 : Nat) : Int) ((0 : Nat) : Int) []) ?_ (fun k => ?_)
  ·cases hr : Zbv t.data.toList with
   | nil => exact absurd hr (Zee _)
   | cons r rs =>
   have hsc := Zgp t.data.toList 0 0 0 [] r rs hr
   have hw : Zch t.data.toList = r.length := by unfold Zch; rw [hr]; rfl
   have hh : Zb2 t.data.toList = rs.length + 1 := by unfold Zb2; rw [hr]; rfl
   have hok : okT t.data.toList = (Zd5 r.length (rs.length + 1) && (rowOk r.length r && rs.all (rowOk r.length)) && Zdy t.data.toList) := by
    unfold okT; rw [hw, hh, hr, List.all_cons]
   have hself : rowOk r.length r = r.all okC := by unfold rowOk; rw [decide_eq_true rfl]; rfl
   refine scan_ev t hs _ t.data.toList 0 0 0 0 [] rfl (by omega) (by omega) (by omega) (by simp) ?_ ?_
   ·intro w h cs he
    rw [hsc] at he
    split at he
    ·rename_i hg
     obtain ⟨g1, g2, g3, _⟩ := hg
     have hcs : Zbg t.data.toList = (r ++ rs.flatten).map fun b => (b.toNat : Int) := by unfold Zbg; rw [hr, List.flatten_cons]
     rw [← hcs] at he
     simp only [Option.some.injEq, Prod.mk.injEq, Nat.zero_add, List.nil_append] at he
     obtain ⟨rfl, rfl, rfl⟩ := he
     have g2' : rs.all (rowOk r.length) = true := by
      rw [List.all_eq_true]; intro q hq; have := g2 q hq; rwa [Nat.zero_add] at this
     have hclen : (Zbg t.data.toList).length = r.length * (rs.length + 1) := by
      rw [hcs, List.length_map, List.length_append, Zii r.length rs, Nat.mul_succ, Nat.add_comm]
      intro q hq
      have := List.all_eq_true.1 g2' q hq
      unfold rowOk at this
      rw [Bool.and_eq_true, decide_eq_true_eq] at this
      exact this.1
     have hcl2 : (Zbg t.data.toList).length ≤ 1000 := by
      have h1 : (Zbg t.data.toList).length ≤ t.data.toList.length := by
       unfold Zbg; rw [List.length_map, Zd6]; exact List.length_filter_le _ _
      omega
     rw [hok, hself, g1, g2', Bool.and_self, Bool.and_true]
     have fin : ∀ b : Bool, (b = false → Ev (fun k => Zas.l1 k (Zbg t.data.toList) ((Zbg t.data.toList).length : Int) 0 (r.length : Int) ((1 + rs.length : Nat) : Int) (Zbg t.data.toList)) (if (Zd5 r.length (rs.length + 1) && Zdy t.data.toList) = true then ((Zch t.data.toList : Nat), (Zb2 t.data.toList : Nat), Zbg t.data.toList, true) else failR)) →
       (b = true → Zd5 r.length (rs.length + 1) = false) → Ev (fun k => Zas.j2 k b (r.length : Int) ((1 + rs.length : Nat) : Int) (Zbg t.data.toList)) (if (Zd5 r.length (rs.length + 1) && Zdy t.data.toList) = true then ((Zch t.data.toList : Nat), (Zb2 t.data.toList : Nat), Zbg t.data.toList, true) else failR) := by
      intro b h1 h2
      cases b
      ·refine Ev.shift (h1 rfl) (fun k => ?_)
       simp only [Zas.j2]
       rw [if_neg (by simp)]
      ·rw [h2 rfl, Bool.false_and, if_neg (by simp)]
       refine Ev.shift (g := fun _ => some failR) (Ev.const rfl) (fun k => ?_)
       simp only [Zas.j2]
       rfl
     have bad : ¬ (r.length ≤ 7 ∧ rs.length + 1 ≤ 7 ∧ (Zbg t.data.toList).length ≤ 36) → Zd5 r.length (rs.length + 1) = false := by
      intro q
      cases hz : Zd5 r.length (rs.length + 1) with
      | false => rfl
      | true =>
       exfalso
       unfold Zd5 at hz
       simp only [Bool.and_eq_true, decide_eq_true_eq] at hz
       exact q ⟨hz.1.1.1.2, hz.1.2, by rw [hclen]; exact hz.2⟩
     by_cases c1 : r.length ≤ 7
     ·by_cases c2 : rs.length + 1 ≤ 7
      ·refine Ev.shift (fin (decide (((Zbg t.data.toList).length : Int) > 36)) (fun q => ?_) (fun q => bad (by simp at q; omega))) (fun k => ?_)
       ·have c3 : (Zbg t.data.toList).length ≤ 36 := by simp at q; omega
        have hz : Zd5 r.length (rs.length + 1) = true := by
         unfold Zd5
         simp only [Bool.and_eq_true, decide_eq_true_eq]
         exact ⟨⟨⟨⟨by omega, c1⟩, by omega⟩, c2⟩, by rw [← hclen]; exact c3⟩
        have hd := dup_ev (r.length : Int) ((1 + rs.length : Nat) : Int) (Zbg t.data.toList) hcl2 (Zbg t.data.toList).length 0 (by omega)
        rw [hz, Bool.true_and]
        by_cases hn : Zdy t.data.toList = true
        ·rw [if_pos ((Zgv _).2 hn)] at hd
         rw [if_pos hn, hw, hh, Nat.add_comm rs.length 1]
         exact hd
        ·rw [if_neg (fun q => hn ((Zgv _).1 q))] at hd
         rw [if_neg hn]
         exact hd
       ·simp only [Zas.l0]
        rw [if_neg (by omega), if_neg (by omega), if_neg (by omega)]
      ·refine Ev.shift (fin true (fun q => by cases q) (fun _ => bad (by omega))) (fun k => ?_)
       simp only [Zas.l0]
       rw [if_neg (by omega), if_neg (by omega), if_pos (by omega)]
     ·refine Ev.shift (fin true (fun q => by cases q) (fun _ => bad (by omega))) (fun k => ?_)
      simp only [Zas.l0]
      rw [if_neg (by omega), if_pos (by omega)]
    ·cases he
   ·intro hn
    rw [hsc] at hn
    split at hn
    ·cases hn
    ·rename_i hg
     rw [if_neg ?_]
     intro hk
     have T := Zen _ hk
     apply hg
     have hr0 := T.rows r (by rw [hr]; exact List.mem_cons_self)
     refine ⟨hr0.2, fun q hq => ?_, by have := T.w0; omega, Or.inl rfl⟩
     have := T.rows q (by rw [hr]; exact List.mem_cons_of_mem _ hq)
     unfold rowOk
     rw [this.2, Nat.zero_add, ← hw, decide_eq_true this.1]; rfl
  ·unfold Zas.f
   rw [if_neg (by omega)]
   rfl
 ·have hn : ¬ okT t.data.toList = true := fun q => hs (Zen _ q).size
  rw [if_neg hn]
  refine Ev.congr (g := fun _ => some failR) (Ev.const rfl) (fun k => ?_)
  unfold Zas.f
  rw [if_pos (by omega)]
  rfl
def goodB (c : UInt8) : Bool := decide (0 ≤ dirIx c)
theorem Zfr (c : UInt8) : goodB c = true ↔ goodD c := by
 rw [Zkg]; simp [goodB]
theorem Zl7 (c : UInt8) : ([117, 114, 100, 108] : List UInt8).contains c = goodB c := by
 rw [Bool.eq_iff_iff, Zfr]
 unfold goodD
 simp
def Zdh (l : List UInt8) : Bool := l.all goodB && decide l.Nodup
theorem Zkf : ∀ l : List UInt8, l.all goodB = true → l.length = l.count 117 + l.count 114 + l.count 100 + l.count 108
 | [], _ => rfl
 | c :: cs, h => by
  rw [List.all_cons, Bool.and_eq_true] at h
  have ih := Zkf cs h.2
  rcases (Zfr c).1 h.1 with rfl | rfl | rfl | rfl <;> simp [List.count_cons, ih] <;> omega
theorem Zhw (l : List UInt8) (h : Zdh l = true) : l.length ≤ 4 := by
 unfold Zdh at h
 rw [Bool.and_eq_true, decide_eq_true_eq] at h
 have h1 := Zkf l h.1
 have h2 := List.nodup_iff_count.1 h.2
 have := h2 117
 have := h2 114
 have := h2 100
 have := h2 108
 omega
theorem nodup_at (l : List UInt8) : l.Nodup ↔ ∀ i (hi : i < l.length), ∀ j (hj : j < i), l[i] ≠ l[j] := by
 unfold List.Nodup
 rw [List.pairwise_iff_getElem]
 constructor
 ·intro h i hi j hj e
  exact h j i (by omega) hi hj e.symm
 ·intro h i j hi hj hij e
  exact h j hj i hij e.symm
def dirAt (l : List UInt8) (i : Nat) : Prop := ∀ i', i ≤ i' → ∀ hi : i' < l.length, goodB l[i'] = true ∧ ∀ j (hj : j < i'), l[i'] ≠ l[j]
theorem Zk3 (l : List UInt8) : dirAt l 0 ↔ Zdh l = true := by
 unfold Zdh
 rw [Bool.and_eq_true, decide_eq_true_eq, nodup_at, List.all_eq_true]
 constructor
 ·intro h
  refine ⟨fun c hc => ?_, fun i hi j hj => (h i (by omega) hi).2 j hj⟩
  obtain ⟨n, hn, rfl⟩ := List.getElem_of_mem hc
  exact (h n (by omega) hn).1
 ·rintro ⟨h1, h2⟩ i _ hi
  exact ⟨h1 _ (List.getElem_mem _), h2 i hi⟩
theorem Zk4 (l : List UInt8) (i : Nat) (hi : i < l.length) : dirAt l i ↔ (goodB l[i] = true ∧ ∀ j (hj : j < i), l[i] ≠ l[j]) ∧ dirAt l (i + 1) := by
 constructor
 ·intro h
  exact ⟨h i (Nat.le_refl _) hi, fun i' h1 h2 => h i' (by omega) h2⟩
 ·rintro ⟨h1, h2⟩ i' h3 h4
  by_cases e : i' = i
  ·subst e; exact h1
  ·exact h2 i' (by omega) h4
open Classical in
theorem Zmd (t : ByteArray) (ht : t.size < 4294967290) : Ev (fun k => Zbh.f k t) (Zdh t.data.toList) := by
 have hts : t.size = t.data.toList.length := Lib.size_eq t
 have main : ∀ (m i : Nat), i + m = t.data.toList.length → Ev (fun k => Zbh.l0 k t (i : Int)) (decide (dirAt t.data.toList i)) := by
  intro m
  induction m with
  | zero =>
   intro i hi
   refine Ev.shift (g := fun _ => some true) ?_ (fun k => ?_)
   ·rw [decide_eq_true (show dirAt t.data.toList i from fun i' h1 h2 => by omega)]; exact Ev.const rfl
   ·simp only [Zbh.l0]
    rw [if_neg (by omega)]
  | succ m ih =>
   intro i hi
   have hlt : i < t.data.toList.length := by omega
   have st := Zk4 t.data.toList i hlt
   have inner : ∀ (m2 j : Nat), j + m2 = i → goodB t.data.toList[i] = true → (∀ j' (hj' : j' < i), j' < j → t.data.toList[i] ≠ t.data.toList[j']) → Ev (fun k => Zbh.l1 k t (i : Int) (j : Int)) (decide (dirAt t.data.toList i)) := by
    intro m2
    induction m2 with
    | zero =>
     intro j hj hg hne
     have e : decide (dirAt t.data.toList i) = decide (dirAt t.data.toList (i + 1)) := by
      rw [decide_eq_decide, st]
      exact ⟨fun q => q.2, fun q => ⟨⟨hg, fun j' hj' => hne j' hj' (by omega)⟩, q⟩⟩
     rw [e]
     refine Ev.shift (ih (i + 1) (by omega)) (fun k => ?_)
     simp only [Zbh.l1]
     rw [if_neg (by omega), Zcc i (by omega)]
    | succ m2 ih2 =>
     intro j hj hg hne
     have hjl : j < t.data.toList.length := by omega
     by_cases e : t.data.toList[i] = t.data.toList[j]
     ·refine Ev.shift (g := fun _ => some false) ?_ (fun k => ?_)
      ·rw [decide_eq_false (fun q => ((st.1 q).1.2 j (by omega)) e)]; exact Ev.const rfl
      ·simp only [Zbh.l1]
       rw [if_pos (by omega), if_pos (by omega), if_pos (by omega), if_pos (by omega), if_pos (by omega), bt_n t i hlt, bt_n t j hjl, if_pos (by rw [e])]
     ·refine Ev.shift (ih2 (j + 1) (by omega) hg (fun j' hj' hjj => ?_)) (fun k => ?_)
      ·by_cases q : j' = j
       ·subst q; exact e
       ·exact hne j' hj' (by omega)
      ·simp only [Zbh.l1]
       rw [if_pos (by omega), if_pos (by omega), if_pos (by omega), if_pos (by omega), if_pos (by omega), bt_n t i hlt, bt_n t j hjl, if_neg (fun q => e (UInt8.toNat_inj.1 (by omega))), Zcc j (by omega)]
   refine Ev.shift (g := fun k => (Zbs.f k ⟨#[t.data.toList[i]]⟩).bind fun d => if d < 0 then some false else Zbh.l1 k t (i : Int) 0) (Ev.bind (Zj2 _) ?_) (fun k => ?_)
   ·by_cases hg : 0 ≤ dirIx t.data.toList[i]
    ·refine Ev.congr (inner i 0 (by omega) (by simpa [goodB] using hg) (by omega)) (fun k => ?_)
     show (if dirIx t.data.toList[i] < 0 then some false else Zbh.l1 k t (i : Int) 0) = _
     rw [if_neg (by omega)]
     rfl
    ·refine Ev.congr (g := fun _ => some false) ?_ (fun k => if_pos (by omega))
     rw [decide_eq_false (fun q => hg (by simpa [goodB] using (st.1 q).1.1))]; exact Ev.const rfl
   ·simp only [Zbh.l0]
    rw [if_pos (by omega), if_pos (by omega), Zcc i (by omega), if_pos (by omega), if_pos (by omega), Int.toNat_natCast, Int.toNat_natCast, Zjt t i hlt]
 have e : Zdh t.data.toList = decide (dirAt t.data.toList 0) := by
  rw [Bool.eq_iff_iff, decide_eq_true_eq, Zk3]
 rw [e]
 exact main t.data.toList.length 0 (by omega)
def Zgj (l : List UInt8) : Bool := decide (l.length ≤ 40) && l.all goodB
theorem Zl2 (t : ByteArray) (ht : t.size < 4294967290) : Zds.f t = some (Zgj t.data.toList) := by
 have hts : t.size = t.data.toList.length := Lib.size_eq t
 unfold Zds.f Zgj
 by_cases h : t.data.toList.length ≤ 40
 ·obtain ⟨tr, h1, h2⟩ := Zje t ⟨#[117, 114, 100, 108]⟩ (by omega) (by decide) (by decide)
  rw [if_pos (by omega), h1, Option.bind_some, decide_eq_true h, Bool.true_and]
  congr 1
  have e : t.data.toList.all (fun c => ([117, 114, 100, 108] : List UInt8).contains c) = t.data.toList.all goodB := by
   congr 1; funext c; exact Zl7 c
  rw [← e, Bool.eq_iff_iff, beq_iff_eq]
  exact h2
 ·rw [if_neg (by omega), decide_eq_false h, Bool.false_and]
theorem Zla (t : ByteArray) (ht : t.size < 4294967290) : Ev (fun k => Zbw.f k t) (Zdh t.data.toList) := by
 have hts : t.size = t.data.toList.length := Lib.size_eq t
 have main : ∀ (m i : Nat), i + m = t.data.toList.length → Ev (fun k => Zbw.l0 k t (t.size : Int) (i : Int)) ((t.data.toList.drop i).all (fun c => decide (t.data.toList.count c ≤ 1)) && Zgj t.data.toList) := by
  intro m
  induction m with
  | zero =>
   intro i hi
   refine Ev.shift (g := fun _ => some (Zgj t.data.toList)) (Ev.const ?_) (fun k => ?_)
   ·rw [List.drop_eq_nil_of_le (by omega), List.all_nil, Bool.true_and]
   ·simp only [Zbw.l0]
    rw [if_neg (by omega), Zl2 t ht, Option.bind_some]
  | succ m ih =>
   intro i hi
   have hlt : i < t.data.toList.length := by omega
   have hc : Zb0.f t ⟨#[t.data.toList[i]]⟩ = some ((t.data.toList.count t.data.toList[i] : Nat) : Int) := by
    unfold Zb0.f
    rw [if_pos (show (⟨#[t.data.toList[i]]⟩ : ByteArray).size = 1 from rfl)]
    rfl
   refine Ev.shift (g := fun k => if t.data.toList.count t.data.toList[i] ≤ 1 then Zbw.l0 k t (t.size : Int) ((i + 1 : Nat) : Int) else some false) ?_ (fun k => ?_)
   ·rw [Zcg _ i hlt, List.all_cons, Bool.and_assoc]
    by_cases q : t.data.toList.count t.data.toList[i] ≤ 1
    ·simp only [if_pos q, decide_eq_true q, Bool.true_and]; exact ih (i + 1) (by omega)
    ·simp only [if_neg q, decide_eq_false q, Bool.false_and]; exact Ev.const rfl
   ·simp only [Zbw.l0]
    rw [if_pos (by omega), if_pos (by omega), Zcc i (by omega), if_pos (by omega), if_pos (by omega), Int.toNat_natCast, Int.toNat_natCast, Zjt t i hlt, hc, Option.bind_some]
    by_cases q : t.data.toList.count t.data.toList[i] ≤ 1
    ·rw [if_neg (by omega), if_pos q]
    ·rw [if_pos (by omega), if_neg q]
 have e : Zdh t.data.toList = ((t.data.toList.drop 0).all (fun c => decide (t.data.toList.count c ≤ 1)) && Zgj t.data.toList) := by
  rw [Bool.eq_iff_iff, List.drop_zero]
  constructor
  ·intro h
   have hl := Zhw _ h
   unfold Zdh at h
   rw [Bool.and_eq_true, decide_eq_true_eq] at h
   rw [Bool.and_eq_true, List.all_eq_true]
   refine ⟨fun c _ => decide_eq_true (List.nodup_iff_count.1 h.2 c), ?_⟩
   unfold Zgj
   rw [h.1, decide_eq_true (by omega)]; rfl
  ·intro h
   rw [Bool.and_eq_true, List.all_eq_true] at h
   unfold Zgj at h
   rw [Bool.and_eq_true] at h
   unfold Zdh
   rw [h.2.2, Bool.true_and, decide_eq_true_eq]
   refine List.nodup_iff_count.2 (fun c => ?_)
   by_cases hc : c ∈ t.data.toList
   ·simpa using h.1 c hc
   ·rw [List.count_eq_zero.2 hc]; omega
 rw [e]
 exact main t.data.toList.length 0 (by omega)
def bareB (l : List UInt8) : Bool := okT l && l.all fun c => ([35, 46, 47] : List UInt8).contains c
theorem Zi4 (t : ByteArray) (ht : t.size < 4294967290) : Ev (fun k => Zc0.f k t) (bareB t.data.toList) := by
 obtain ⟨tr, h1, h2⟩ := Zje t ⟨#[35, 46, 47]⟩ (by omega) (by decide) (by decide)
 refine Ev.bind (g := fun k t101 => if t101 = true then ((Zca.f t (⟨#[35, 46, 47]⟩ : ByteArray)).bind fun t102 => (some (t102.toList == ([] : List UInt8)))) else (some false)) (Zmn t ht) (Ev.const ?_)
 unfold bareB
 cases okT t.data.toList
 ·rfl
 ·rw [if_pos rfl, h1, Option.bind_some, Bool.true_and]
  congr 1
  rw [Bool.eq_iff_iff, beq_iff_eq]
  exact h2
theorem rd_mem (l : List Int) (j : Nat) (h : j < l.length) : rd l (j : Int) ∈ l := by rw [rd_n l j h]; exact List.getElem_mem _
theorem Zf6 (l : List UInt8) (x : Int) : x ∈ Zbg l ↔ ∃ c ∈ l, c ≠ 47 ∧ x = (c.toNat : Int) := by
 unfold Zbg
 rw [Zd6]
 simp only [List.mem_map, List.mem_filter, bne_iff_ne, ne_eq]
 constructor
 ·rintro ⟨c, ⟨h1, h2⟩, rfl⟩; exact ⟨c, h1, h2, rfl⟩
 ·rintro ⟨c, h1, h2, rfl⟩; exact ⟨c, ⟨h1, h2⟩, rfl⟩
theorem Zlw (l : List UInt8) (h : okT l = true) : ∀ c ∈ l, c = 47 ∨ okC c = true := by
 intro c hc
 by_cases e : c = 47
 ·exact Or.inl e
 ·right
  have T := Zen l h
  have hm : c ∈ (Zbv l).flatten := by rw [Zd6, List.mem_filter]; exact ⟨hc, by simpa using e⟩
  obtain ⟨r, hr, hcr⟩ := List.mem_flatten.1 hm
  exact List.all_eq_true.1 (T.rows r hr).2 c hcr
theorem Zk9 (l : List UInt8) (h : okT l = true) : bareB l = true ↔ ∀ x ∈ Zbg l, ballB x = false := by
 unfold bareB
 rw [h, Bool.true_and, List.all_eq_true]
 constructor
 ·intro q x hx
  obtain ⟨c, hc, h47, rfl⟩ := (Zf6 l x).1 hx
  have := q c hc
  simp only [List.contains_cons, List.contains_nil, Bool.or_false, Bool.or_eq_true, beq_iff_eq] at this
  rcases this with rfl | rfl | rfl
  ·decide
  ·decide
  ·exact absurd rfl h47
 ·intro q c hc
  rcases Zlw l h c hc with rfl | ho
  ·decide
  ·by_cases h47 : c = 47
   ·subst h47; decide
   ·have := q _ ((Zf6 l _).2 ⟨c, hc, h47, rfl⟩)
    unfold okC at ho
    rw [this, Bool.or_false] at ho
    simp only [Bool.or_eq_true, beq_iff_eq] at ho
    rcases ho with rfl | rfl <;> decide
theorem Zk8 (l : List UInt8) (h : bareB l = true) : ∀ x ∈ Zbg l, x = 35 ∨ x = 46 := by
 intro x hx
 obtain ⟨c, hc, h47, rfl⟩ := (Zf6 l x).1 hx
 unfold bareB at h
 rw [Bool.and_eq_true, List.all_eq_true] at h
 have := h.2 c hc
 simp only [List.contains_cons, List.contains_nil, Bool.or_false, Bool.or_eq_true, beq_iff_eq] at this
 rcases this with rfl | rfl | rfl
 ·exact Or.inl rfl
 ·exact Or.inr rfl
 ·exact absurd rfl h47
theorem Zjb (l : List UInt8) (h : bareB l = true) : openL (Zbg l) = (freeL (Zbg l)).map fun (j : Nat) => (j : Int) := by
 unfold openL freeL
 congr 1
 apply List.filter_congr
 intro j hj
 rcases Zk8 l h _ (rd_mem (Zbg l) j (List.mem_range.1 hj)) with e | e <;> rw [e] <;> rfl
def bareG (k : Nat) (b : Int × Int × List Int × Bool) : Option (Int × Int × List Int × Int × Bool) := if b.2.2.2 = true then ((Zbi.f k b.1 b.2.1 b.2.2.1).bind fun t109 => (Za6.j0 k (decide ((t109.length : Int) > 0)) b.1 b.2.1 b.2.2.1)) else (Za6.j0 k true b.1 b.2.1 b.2.2.1)
theorem Zme (t : ByteArray) (ht : t.size < 4294967290) : ∃ R : Int × Int × List Int × Int × Bool, Ev (fun k => Za6.f k t) R ∧
  (bareB t.data.toList = true → R = (((Zch t.data.toList : Nat) : Int), ((Zb2 t.data.toList : Nat) : Int), Zbg t.data.toList, (((freeL (Zbg t.data.toList)).length : Nat) : Int), true)) ∧ (bareB t.data.toList = false → R.2.2.2.2 = false) := by
 have hr := Zld t ht
 have j0t : ∀ w h cells, Ev (fun k => Za6.j0 k true w h cells) (w, h, cells, 0, false) := fun w h cells => by
  refine Ev.shift (g := fun _ => some (w, h, cells, 0, false)) (Ev.const rfl) (fun k => ?_)
  simp only [Za6.j0]
  rfl
 have bind : ∀ (b : Int × Int × List Int × Bool) (R : Int × Int × List Int × Int × Bool), Ev (fun k => Zas.f k t) b → Ev (fun k => bareG k b) R → Ev (fun k => Za6.f k t) R := fun b R h1 h2 => Ev.bind (g := bareG) h1 h2
 cases hok : okT t.data.toList with
 | false =>
  rw [hok, if_neg (by simp)] at hr
  refine ⟨(0, 0, [], 0, false), bind _ _ hr (j0t 0 0 []), ?_, fun _ => rfl⟩
  intro q; unfold bareB at q; rw [hok] at q; cases q
 | true =>
  rw [hok, if_pos rfl] at hr
  have T := Zen _ hok
  have hlen : (Zbg t.data.toList).length < 4294967296 := by
   have := T.len; have := T.wh; omega
  have hb := Zkp (Zch t.data.toList : Nat) (Zb2 t.data.toList : Nat) (Zbg t.data.toList) hlen
  have e : (((List.range (Zbg t.data.toList).length).filter fun (j : Nat) => ballB (rd (Zbg t.data.toList) (j : Int))).map fun (j : Nat) => (j : Int)).length = 0 ↔ bareB t.data.toList = true := by
   rw [Zk9 _ hok, List.length_map, List.length_eq_zero_iff, List.filter_eq_nil_iff]
   constructor
   ·intro q x hx
    obtain ⟨n, hn, rfl⟩ := List.getElem_of_mem hx
    have := q n (List.mem_range.2 hn)
    rw [rd_n _ n hn] at this
    simpa using this
   ·intro q n hn
    rw [q _ (rd_mem _ n (List.mem_range.1 hn))]; simp
  generalize ((List.range (Zbg t.data.toList).length).filter fun (j : Nat) => ballB (rd (Zbg t.data.toList) (j : Int))).map (fun (j : Nat) => (j : Int)) = B at hb e
  have go : ∀ R, Ev (fun k => Za6.j0 k (decide ((B.length : Int) > 0)) (Zch t.data.toList : Nat) (Zb2 t.data.toList : Nat) (Zbg t.data.toList)) R → Ev (fun k => Za6.f k t) R := by
   intro R hR
   refine bind _ _ hr ?_
   exact Ev.bind (g := fun k t109 => Za6.j0 k (decide ((t109.length : Int) > 0)) (Zch t.data.toList : Nat) (Zb2 t.data.toList : Nat) (Zbg t.data.toList)) hb hR
  by_cases hba : bareB t.data.toList = true
  ·have e0 := e.2 hba
   refine ⟨(((Zch t.data.toList : Nat) : Int), ((Zb2 t.data.toList : Nat) : Int), Zbg t.data.toList, (((freeL (Zbg t.data.toList)).length : Nat) : Int), true), go _ ?_, fun _ => rfl, fun q => by rw [hba] at q; cases q⟩
   refine Ev.shift (Zi7 (Zch t.data.toList : Nat) (Zb2 t.data.toList : Nat) (Zbg t.data.toList) hlen) (fun k => ?_)
   simp only [Za6.j0]
   rw [decide_eq_false (by omega), if_neg (by simp)]
  ·have e0 : ¬ B.length = 0 := fun q => hba (e.1 q)
   refine ⟨(((Zch t.data.toList : Nat) : Int), ((Zb2 t.data.toList : Nat) : Int), Zbg t.data.toList, 0, false), go _ ?_, fun q => absurd q hba, fun _ => rfl⟩
   rw [decide_eq_true (by omega)]
   exact j0t _ _ _
def freeN (l : List UInt8) : Nat := (freeL (Zbg l)).length
def lookB (l : List UInt8) : Bool := bareB l && decide (freeN l ≤ 16)
def Zdz (l d : List UInt8) : List ByteArray := (List.range (2 ^ freeN l)).flatMap fun s => addD (Zch l) (Zb2 l) d (fillS (freeL (Zbg l)) s (Zbg l))
def lookG (t : ByteArray) (k : Nat) (b : Int × Int × List Int × Int × Bool) : Option (Int × Int × List Int × Int × Bool) := if b.2.2.2.2 = true then (if b.2.2.2.1 ≤ 16 then ((Zbh.f k t).bind fun t110 => (some (b.1, b.2.1, b.2.2.1, b.2.2.2.1, t110))) else (some (b.1, b.2.1, b.2.2.1, b.2.2.2.1, false))) else (some (b.1, b.2.1, b.2.2.1, b.2.2.2.1, false))
theorem Zjv (t d : ByteArray) (ht : t.size < 4294967290) (hd : d.size < 4294967290) : ∃ R : Int × Int × List Int × Int × Bool, Ev (fun k => Zbt.f k t d) R ∧
  ((lookB t.data.toList && Zdh d.data.toList) = true → R = (((Zch t.data.toList : Nat) : Int), ((Zb2 t.data.toList : Nat) : Int), Zbg t.data.toList, ((freeN t.data.toList : Nat) : Int), true)) ∧ ((lookB t.data.toList && Zdh d.data.toList) = false → R.2.2.2.2 = false) := by
 obtain ⟨B, h1, h2, h3⟩ := Zme t ht
 have go : ∀ R, Ev (fun k => lookG d k B) R → Ev (fun k => Zbt.f k t d) R := fun R h => Ev.bind (g := lookG d) h1 h
 unfold lookB
 by_cases hb : bareB t.data.toList = true
 ·have hB := h2 hb
  rw [hb, Bool.true_and]
  by_cases hn : freeN t.data.toList ≤ 16
  ·rw [decide_eq_true hn, Bool.true_and]
   refine ⟨(((Zch t.data.toList : Nat) : Int), ((Zb2 t.data.toList : Nat) : Int), Zbg t.data.toList, ((freeN t.data.toList : Nat) : Int), Zdh d.data.toList), go _ ?_, fun q => by rw [q], fun q => q⟩
   refine Ev.congr (g := fun k => (Zbh.f k d).bind fun t110 => (some (((Zch t.data.toList : Nat) : Int), ((Zb2 t.data.toList : Nat) : Int), Zbg t.data.toList, ((freeN t.data.toList : Nat) : Int), t110))) (Ev.bind (g := fun k t110 => some (((Zch t.data.toList : Nat) : Int), ((Zb2 t.data.toList : Nat) : Int), Zbg t.data.toList, ((freeN t.data.toList : Nat) : Int), t110)) (Zmd d hd) (Ev.const rfl)) (fun k => ?_)
   unfold lookG
   rw [hB]
   show (if ((freeN t.data.toList : Nat) : Int) ≤ 16 then _ else _) = _
   rw [if_pos (by omega)]
   rfl
  ·rw [decide_eq_false hn, Bool.false_and]
   refine ⟨(((Zch t.data.toList : Nat) : Int), ((Zb2 t.data.toList : Nat) : Int), Zbg t.data.toList, ((freeN t.data.toList : Nat) : Int), false), go _ (Ev.congr (g := fun k => some (((Zch t.data.toList : Nat) : Int), ((Zb2 t.data.toList : Nat) : Int), Zbg t.data.toList, ((freeN t.data.toList : Nat) : Int), false)) (Ev.const rfl) (fun k => ?_)), fun q => (by cases q), fun _ => rfl⟩
   unfold lookG
   rw [hB]
   show (if ((freeN t.data.toList : Nat) : Int) ≤ 16 then _ else _) = _
   rw [if_neg (by omega)]
   rfl
 ·have hb : bareB t.data.toList = false := by simpa using hb
  have hB := h3 hb
  rw [hb, Bool.false_and, Bool.false_and]
  refine ⟨(B.1, B.2.1, B.2.2.1, B.2.2.2.1, false), go _ (Ev.congr (g := fun k => some (B.1, B.2.1, B.2.2.1, B.2.2.2.1, false)) (Ev.const rfl) (fun k => ?_)), fun q => (by cases q), fun _ => rfl⟩
  unfold lookG
  rw [hB]
  rfl
theorem Zjy (l : List UInt8) (h : bareB l = true) : okT l = true := by
 unfold bareB at h
 rw [Bool.and_eq_true] at h
 exact h.1
theorem Zi0 (l : List UInt8) (h : bareB l = true) : (openL (Zbg l)).length = freeN l := by
 rw [Zjb l h, List.length_map]; rfl
theorem Zjp (t : ByteArray) (ht : t.size < 4294967290) : Ev (fun k => Zcy.f k t) (lookB t.data.toList) := by
 refine Ev.bind (g := fun k t101 => if t101 = true then ((Zcs.f k t).bind fun bt102 => ((Zaq.f k bt102.1 bt102.2.1 bt102.2.2).bind fun t107 => (some (decide ((t107.length : Int) ≤ 16))))) else (some false)) (Zi4 t ht) ?_
 unfold lookB
 cases hb : bareB t.data.toList with
 | false => exact Ev.const rfl
 | true =>
  have T := Zen _ (Zjy _ hb)
  have hlen : (Zbg t.data.toList).length < 4294967296 := by
   have := T.len; have := T.wh; omega
  rw [Bool.true_and]
  have h2 : Ev (fun k => (Zaq.f k (Zch t.data.toList : Nat) (Zb2 t.data.toList : Nat) (Zbg t.data.toList)).bind fun t107 => (some (decide ((t107.length : Int) ≤ 16)))) (decide (freeN t.data.toList ≤ 16)) := by
   refine Ev.bind (g := fun k t107 => some (decide ((t107.length : Int) ≤ 16))) (Zhu _ _ _ hlen) (Ev.const ?_)
   rw [Zi0 _ hb]
   congr 1
   rw [decide_eq_decide]; omega
  exact Ev.bind (g := fun k (bt102 : Int × Int × List Int) => (Zaq.f k bt102.1 bt102.2.1 bt102.2.2).bind fun t107 => (some (decide ((t107.length : Int) ≤ 16)))) (Zls t ht) h2
theorem Zis (t d : ByteArray) (ht : t.size < 4294967290) (hd : d.size < 4294967290) (hb : lookB t.data.toList = true) (ho : Zdh d.data.toList = true) : Ev (fun k => Zb8.f k t d) (sortS (Zdz t.data.toList d.data.toList)) := by
 unfold lookB at hb
 rw [Bool.and_eq_true, decide_eq_true_eq] at hb
 have T := Zen _ (Zjy _ hb.1)
 have hlen : (Zbg t.data.toList).length < 4294967296 := by
  have := T.len; have := T.wh; omega
 have hg : ∀ c ∈ d.data.toList, goodD c := by
  intro c hc
  unfold Zdh at ho
  rw [Bool.and_eq_true, List.all_eq_true] at ho
  exact (Zfr c).1 (ho.1 c hc)
 have hol := Zi0 _ hb.1
 have hp : 2 ^ freeN t.data.toList ≤ 65536 := Nat.pow_le_pow_right (by omega) hb.2
 have hN := Zhp (Zch t.data.toList) (Zb2 t.data.toList) (Zbg t.data.toList) (openL (Zbg t.data.toList)) T.w0 T.h0 (by have := T.w7; omega) (by have := T.h7; omega) T.len d hg (2 ^ (openL (Zbg t.data.toList)).length)
 have eL : (List.range (2 ^ (openL (Zbg t.data.toList)).length)).flatMap (fun s => addD (Zch t.data.toList) (Zb2 t.data.toList) d.data.toList (fillJ (Zbg t.data.toList) (openL (Zbg t.data.toList)) s (openL (Zbg t.data.toList)).length)) = Zdz t.data.toList d.data.toList := by
  rw [hol]
  unfold Zdz
  congr 1
  funext s
  rw [fillS_eq, Zjb _ hb.1]
  rfl
 rw [eL] at hN
 have hlenL : (Zdz t.data.toList d.data.toList).length ≤ 65536 := by
  have : ∀ L : List Nat, (L.flatMap fun s => addD (Zch t.data.toList) (Zb2 t.data.toList) d.data.toList (fillS (freeL (Zbg t.data.toList)) s (Zbg t.data.toList))).length ≤ L.length := by
   intro L
   induction L with
   | nil => simp
   | cons a L ih =>
    rw [List.flatMap_cons, List.length_append, List.length_cons]
    have : (addD (Zch t.data.toList) (Zb2 t.data.toList) d.data.toList (fillS (freeL (Zbg t.data.toList)) a (Zbg t.data.toList))).length ≤ 1 := by
     unfold addD; split <;> simp
    omega
  have := this (List.range (2 ^ freeN t.data.toList))
  rw [List.length_range] at this
  unfold Zdz
  omega
 have hok : Zd9 (Zbg t.data.toList) (openL (Zbg t.data.toList)) d = true := by
  unfold Zd9
  simp only [Bool.and_eq_true, decide_eq_true_eq, List.all_eq_true]
  refine ⟨⟨⟨by omega, fun x hx => ?_⟩, by have := T.len; have := T.wh; omega⟩, by omega⟩
  unfold openL at hx
  obtain ⟨n, hn, rfl⟩ := List.mem_map.1 hx
  have := List.mem_range.1 (List.mem_filter.1 hn).1
  omega
 have h3 : Ev (fun k => if Zd9 (Zbg t.data.toList) (openL (Zbg t.data.toList)) d = true then (Zdi k (Zch t.data.toList : Nat) (Zb2 t.data.toList : Nat) (Zbg t.data.toList) (openL (Zbg t.data.toList)) d (2 ^ (openL (Zbg t.data.toList)).length)).bind fun out => Zbe.f out else none) (sortS (Zdz t.data.toList d.data.toList)) := by
  refine Ev.congr (g := fun k => (Zdi k (Zch t.data.toList : Nat) (Zb2 t.data.toList : Nat) (Zbg t.data.toList) (openL (Zbg t.data.toList)) d (2 ^ (openL (Zbg t.data.toList)).length)).bind fun out => Zbe.f out) ?_ (fun k => if_pos hok)
  refine Ev.bind (g := fun k out => Zbe.f out) hN (Ev.const ?_)
  unfold Zbe.f
  rw [if_pos (by omega)]
 have h2 : Ev (fun k => (Zaq.f k (Zch t.data.toList : Nat) (Zb2 t.data.toList : Nat) (Zbg t.data.toList)).bind fun list => if Zd9 (Zbg t.data.toList) list d = true then (Zdi k (Zch t.data.toList : Nat) (Zb2 t.data.toList : Nat) (Zbg t.data.toList) list d (2 ^ list.length)).bind fun out => Zbe.f out else none) (sortS (Zdz t.data.toList d.data.toList)) :=
  Ev.bind (g := fun k list => if Zd9 (Zbg t.data.toList) list d = true then (Zdi k (Zch t.data.toList : Nat) (Zb2 t.data.toList : Nat) (Zbg t.data.toList) list d (2 ^ list.length)).bind fun out => Zbe.f out else none) (Zhu _ _ _ hlen) h3
 exact Ev.bind (g := fun k (r : Int × Int × List Int) => (Zaq.f k r.1 r.2.1 r.2.2).bind fun list => if Zd9 r.2.2 list d = true then (Zdi k r.1 r.2.1 r.2.2 list d (2 ^ list.length)).bind fun out => Zbe.f out else none) (Zls t ht) h2
theorem Zea (l : List ByteArray) : (sortS l).length = l.length := by
 unfold sortS
 rw [List.length_map, List.length_mergeSort, List.length_map]
def Zmb (t d : List UInt8) : Int × Bool := if (lookB t && Zdh d) = true then (((Zdz t d).length : Int), true) else (0, false)
theorem Zih (t d : ByteArray) (ht : t.size < 4294967290) (hd : d.size < 4294967290) : Ev (fun k => Zcn.f k t d) (Zmb t.data.toList d.data.toList) := by
 refine Ev.bind (g := fun k t101 => if t101 = true then ((Zbw.f k d).bind fun t102 => (if t102 = true then ((Zb8.f k t d).bind fun t103 => (some ((t103.length : Int), true))) else (some (0, false)))) else (some (0, false))) (Zjp t ht) ?_
 unfold Zmb
 cases hl : lookB t.data.toList with
 | false => exact Ev.const rfl
 | true =>
  rw [Bool.true_and]
  refine Ev.bind (g := fun k t102 => if t102 = true then ((Zb8.f k t d).bind fun t103 => (some ((t103.length : Int), true))) else (some (0, false))) (Zla d hd) ?_
  cases ho : Zdh d.data.toList with
  | false => exact Ev.const rfl
  | true =>
   refine Ev.bind (g := fun k (t103 : List ByteArray) => some ((t103.length : Int), true)) (Zis t d ht hd hl ho) (Ev.const ?_)
   rw [Zea]; rfl
theorem Zji (t d : ByteArray) (ht : t.size < 4294967290) (hd : d.size < 4294967290) (h : (lookB t.data.toList && Zdh d.data.toList) = true) :
  Ev (fun k => Zap.f k (Zch t.data.toList : Nat) (Zb2 t.data.toList : Nat) (Zbg t.data.toList) (freeN t.data.toList : Nat) d) (Zdz t.data.toList d.data.toList) := by
 rw [Bool.and_eq_true] at h
 obtain ⟨hb, ho⟩ := h
 have hdl := Zhw _ ho
 unfold lookB at hb
 rw [Bool.and_eq_true, decide_eq_true_eq] at hb
 have T := Zen _ (Zjy _ hb.1)
 refine Zjz _ _ _ _ hb.2 T.w0 T.h0 T.w7 T.h7 T.len d (by rw [Lib.size_eq]; omega) ?_
 intro c hc
 unfold Zdh at ho
 rw [Bool.and_eq_true, List.all_eq_true] at ho
 exact (Zfr c).1 (ho.1 c hc)
theorem Zjo : ∀ (x y : List UInt8), Op.bytesLess x y = decide (x < y)
 | [], [] => by simp [Op.bytesLess]
 | _ :: _, [] => by simp [Op.bytesLess]
 | [], _ :: _ => by simp [Op.bytesLess]
 | a :: x, b :: y => by
  rw [Op.bytesLess, Zjo x y]
  simp only [List.cons_lt_cons_iff]
  by_cases h1 : a < b <;> by_cases h2 : a = b <;> by_cases h3 : x < y <;> simp [h1, h2, h3]
def insS (s : ByteArray) : List ByteArray → List ByteArray
 | [] => [s]
 | a :: l => if a.data.toList < s.data.toList then a :: insS s l else s :: a :: l
theorem Zg3 (s : ByteArray) : ∀ l, (insS s l).length = l.length + 1
 | [] => rfl
 | a :: l => by
  rw [insS]; split
  ·rw [List.length_cons, Zg3, List.length_cons]
  ·rfl
theorem Zg2 (s : ByteArray) : ∀ l, (insS s l).Perm (s :: l)
 | [] => List.Perm.refl _
 | a :: l => by
  rw [insS]; split
  ·exact ((Zg2 s l).cons a).trans (List.Perm.swap _ _ _)
  ·exact List.Perm.refl _
def leS (a b : ByteArray) : Prop := a.data.toList ≤ b.data.toList
theorem Zg1 (s : ByteArray) : ∀ l : List ByteArray, l.Pairwise leS → (insS s l).Pairwise leS
 | [], _ => by simp [insS]
 | a :: l, h => by
  have h1 := List.pairwise_cons.1 h
  rw [insS]; split
  ·rename_i hlt
   refine List.pairwise_cons.2 ⟨fun b hb => ?_, Zg1 s l h1.2⟩
   rcases List.mem_cons.1 ((Zg2 s l).mem_iff.1 hb) with q | q
   ·subst q; exact List.le_of_lt hlt
   ·exact h1.1 b q
  ·rename_i hge
   have hsa : leS s a := List.not_lt.1 hge
   refine List.pairwise_cons.2 ⟨fun b hb => ?_, h⟩
   rcases List.mem_cons.1 hb with q | q
   ·subst q; exact hsa
   ·exact List.le_trans hsa (h1.1 b q)
def Zht (L : List ByteArray) (S : List ByteArray) : List ByteArray := L.foldl (fun S s => insS s S) S
theorem Zg4 : ∀ (L S : List ByteArray), (Zht L S).Perm (L ++ S)
 | [], S => List.Perm.refl _
 | s :: L, S => by
  have := Zg4 L (insS s S)
  refine (show (Zht (s :: L) S) = Zht L (insS s S) from rfl) ▸ this.trans ?_
  exact ((Zg2 s S).append_left L).trans List.perm_middle
theorem Zfq : ∀ (L S : List ByteArray), S.Pairwise leS → (Zht L S).Pairwise leS
 | [], S, h => h
 | s :: L, S, h => Zfq L (insS s S) (Zg1 s S h)
theorem Zks (L : List ByteArray) : (sortS L).Perm L := by
 unfold sortS
 have h := (List.mergeSort_perm (L.map fun s => s.data.toList) fun x y => decide (x ≤ y)).map fun b : List UInt8 => (⟨b.toArray⟩ : ByteArray)
 rw [List.map_map] at h
 have e : L.map ((fun b : List UInt8 => (⟨b.toArray⟩ : ByteArray)) ∘ fun s => s.data.toList) = L := by
  conv => rhs; rw [← List.map_id L]
  apply List.map_congr_left
  intro a _
  exact Lib.mk_data a
 rw [e] at h
 exact h
theorem Ziu (L : List ByteArray) : (sortS L).Pairwise leS := by
 unfold sortS
 rw [List.pairwise_map]
 have h := List.pairwise_mergeSort (le := fun (x y : List UInt8) => decide (x ≤ y)) (fun a b c h1 h2 => by
  rw [decide_eq_true_eq] at h1 h2 ⊢; exact List.le_trans h1 h2) (fun a b => by
  rw [Bool.or_eq_true, decide_eq_true_eq, decide_eq_true_eq]; exact List.le_total a b) (L.map fun s => s.data.toList)
 refine h.imp (fun {a b} hab => ?_)
 rw [decide_eq_true_eq] at hab
 exact hab
theorem Zjq (L : List ByteArray) : Zht L [] = sortS L := by
 refine List.Perm.eq_of_pairwise (le := leS) (fun a b _ _ h1 h2 => ?_) (Zfq L [] List.Pairwise.nil) (Ziu L) ?_
 ·have : a.data.toList = b.data.toList := List.le_antisymm h1 h2
  rw [← Lib.mk_data a, this, Lib.mk_data b]
 ·have := Zg4 L []
  rw [List.append_nil] at this
  exact this.trans (Zks L).symm
theorem Zjh (L : List ByteArray) (hL : L.length ≤ 1000) : Ev (fun k => Zaw.l0 k [] L (L.length : Int) 0) (sortS L, true) := by
 have inner : ∀ (R : List ByteArray × Bool) (i : Nat) (hi : i < 1000) (S : List ByteArray) (hS : S.length ≤ 1000) (s : ByteArray) (m j : Nat), j + m = S.length →
   Ev (fun k => Zaw.l0 k (S.take j ++ insS s (S.drop j)) L (L.length : Int) ((i + 1 : Nat) : Int)) R → Ev (fun k => Zaw.l1 k S s (j : Int) L (L.length : Int) (i : Int)) R := by
  intro R i hi S hS s m
  induction m with
  | zero =>
   intro j hj hR
   rw [List.drop_eq_nil_of_le (by omega), insS, List.take_of_length_le (by omega)] at hR
   refine Ev.shift hR (fun k => ?_)
   simp only [Zaw.l1, Option.bind_some, List.nil_append, Int.toNat_natCast]
   rw [if_neg (by omega), if_pos (by omega), if_pos (by omega), List.take_of_length_le (by omega), List.drop_eq_nil_of_le (by omega)]
   rw [if_pos (by simp only [List.length_nil]; omega), if_pos (by omega), if_pos (by simp only [List.length_append, List.length_singleton, List.length_nil]; omega), List.append_nil, Zcc i (by omega)]
  | succ m ih =>
   intro j hj hR
   have hlt : j < S.length := by omega
   have hrd : rdOf ByteArray.empty S (j : Int) = S[j] := Zgu S j hlt
   rw [Zcg S j hlt, insS] at hR
   have t : (S.take j).length = j := by rw [List.length_take]; omega
   have u : (S.drop j).length = S.length - j := List.length_drop
   by_cases hl : S[j].data.toList < s.data.toList
   ·rw [if_pos hl] at hR
    refine Ev.shift (ih (j + 1) (by omega) (by rw [← List.take_append_getElem hlt, List.append_assoc]; exact hR)) (fun k => ?_)
    simp only [Zaw.l1]
    rw [if_pos (by omega), if_pos (by omega), hrd, Lib.toList_data, Lib.toList_data, Zjo, decide_eq_true hl, if_pos rfl, Zcc j (by omega)]
   ·rw [if_neg hl] at hR
    refine Ev.shift (g := fun k => Zaw.l0 k (S.take j ++ [s] ++ S.drop j) L (L.length : Int) ((i + 1 : Nat) : Int)) ?_ (fun k => ?_)
    ·rw [Zcg S j hlt, List.append_assoc]; exact hR
    ·simp only [Zaw.l1, Option.bind_some, List.nil_append, Int.toNat_natCast]
     rw [if_pos (by omega), if_pos (by omega), hrd, Lib.toList_data, Lib.toList_data, Zjo, decide_eq_false hl, if_neg (by simp), Zcc i (by omega)]
     simp only [List.length_append, List.length_singleton, List.length_nil, t, u]
     rw [if_pos (show (j : Int) ≤ (S.length : Int) by omega), if_pos (show 0 + j < 8796093022208 by omega), if_pos (show j < 8796093022208 by omega), if_pos (show j + 1 + (S.length - j) < 8796093022208 by omega)]
 have outer : ∀ (m i : Nat) (S : List ByteArray), i + m = L.length → S.length = i → Ev (fun k => Zaw.l0 k S L (L.length : Int) (i : Int)) (Zht (L.drop i) S, true) := by
  intro m
  induction m with
  | zero =>
   intro i S hi hS
   refine Ev.shift (g := fun _ => some (S, true)) (Ev.const (by rw [List.drop_eq_nil_of_le (by omega)]; rfl)) (fun k => ?_)
   simp only [Zaw.l0]
   rw [if_neg (by omega)]
  | succ m ih =>
   intro i S hi hS
   have hlt : i < L.length := by omega
   rw [Zcg L i hlt]
   refine Ev.shift (g := fun k => Zaw.l1 k S L[i] ((0 : Nat) : Int) L (L.length : Int) (i : Int)) ?_ (fun k => ?_)
   ·refine inner _ i (by omega) S (by omega) L[i] S.length 0 (by omega) ?_
    rw [List.take_zero, List.nil_append, List.drop_zero]
    exact ih (i + 1) (insS L[i] S) (by omega) (by rw [Zg3]; omega)
   ·simp only [Zaw.l0]
    rw [if_pos (by omega), if_pos (by omega), if_pos (by omega), Zgu L i hlt]
    rfl
 have := outer L.length 0 [] (by omega) rfl
 rw [List.drop_zero, Zjq] at this
 exact this
def allR (t d : List UInt8) : List ByteArray × Bool := if (lookB t && Zdh d) = true ∧ (Zdz t d).length ≤ 200 then (sortS (Zdz t d), true) else ([], false)
theorem Zgd (t d : ByteArray) (ht : t.size < 4294967290) (hd : d.size < 4294967290) : Ev (fun k => Zaw.f k t d) (allR t.data.toList d.data.toList) := by
 obtain ⟨R, h1, h2, h3⟩ := Zjv t d ht hd
 refine Ev.bind (g := fun k (bt101 : Int × Int × List Int × Int × Bool) => if bt101.2.2.2.2 = true then ((Zap.f k bt101.1 bt101.2.1 bt101.2.2.1 bt101.2.2.2.1 d).bind fun t109 => (if (t109.length : Int) > 200 then (some (([] : List ByteArray), false)) else (Zaw.l0 k ([] : List ByteArray) t109 (t109.length : Int) 0))) else (some (([] : List ByteArray), false))) h1 ?_
 unfold allR
 by_cases h : (lookB t.data.toList && Zdh d.data.toList) = true
 ·rw [h2 h]
  refine Ev.bind (g := fun k (t109 : List ByteArray) => if (t109.length : Int) > 200 then (some (([] : List ByteArray), false)) else (Zaw.l0 k ([] : List ByteArray) t109 (t109.length : Int) 0)) (Zji t d ht hd h) ?_
  by_cases hn : (Zdz t.data.toList d.data.toList).length ≤ 200
  ·rw [if_pos ⟨h, hn⟩]
   exact Ev.congr (Zjh _ (by omega)) (fun k => if_neg (by omega))
  ·rw [if_neg (fun q => hn q.2)]
   exact Ev.congr (g := fun k => some ([], false)) (Ev.const rfl) (fun k => if_pos (by omega))
 ·rw [if_neg (fun q => h q.1)]
  refine Ev.congr (g := fun k => some ([], false)) (Ev.const rfl) (fun k => ?_)
  rw [if_neg]
  rw [h3 (by simpa using h)]
  simp
theorem Zge (t d : ByteArray) (ht : t.size < 4294967290) (hd : d.size < 4294967290) : Ev (fun k => Zb1.f k t d) (allR t.data.toList d.data.toList) := by
 refine Ev.bind (g := fun k (bt101 : Int × Bool) => if bt101.2 = true then (if bt101.1 > 200 then (some (([] : List ByteArray), false)) else ((Zb8.f k t d).bind fun t103 => (some (t103, true)))) else (some (([] : List ByteArray), false))) (Zih t d ht hd) ?_
 unfold allR Zmb
 by_cases h : (lookB t.data.toList && Zdh d.data.toList) = true
 ·rw [if_pos h]
  by_cases hn : (Zdz t.data.toList d.data.toList).length ≤ 200
  ·rw [if_pos ⟨h, hn⟩]
   have h2 := h
   rw [Bool.and_eq_true] at h2
   refine Ev.congr (g := fun k => (Zb8.f k t d).bind fun t103 => (some (t103, true))) (Ev.bind (g := fun k (t103 : List ByteArray) => some (t103, true)) (Zis t d ht hd h2.1 h2.2) (Ev.const rfl)) (fun k => ?_)
   rw [if_pos rfl, if_neg (by show ¬ ((Zdz t.data.toList d.data.toList).length : Int) > 200; omega)]
  ·rw [if_neg (fun q => hn q.2)]
   refine Ev.congr (g := fun k => some ([], false)) (Ev.const rfl) (fun k => ?_)
   rw [if_pos rfl, if_pos (by show ((Zdz t.data.toList d.data.toList).length : Int) > 200; omega)]
 ·rw [if_neg h, if_neg (fun q => h q.1)]
  exact Ev.congr (g := fun k => some ([], false)) (Ev.const rfl) (fun k => if_neg (by simp))
theorem Zi3 : ∀ (n : Nat) (v : Int) (x : ByteArray), 0 ≤ v → v < 10 ^ n → v < 1000000 → x.size + n ≤ 100 → ∃ r, Ev (fun k => Zbq.l0 k v x) r
 | 0, v, x, h0, h1, hv, hx => by
  refine ⟨(⟨#[109]⟩ : ByteArray) ++ x, Ev.shift (g := fun _ => some ((⟨#[109]⟩ : ByteArray) ++ x)) (Ev.const rfl) (fun k => ?_)⟩
  simp only [Zbq.l0]
  rw [if_neg (by simp at h1; omega), if_pos (by omega)]
 | n + 1, v, x, h0, h1, hv, hx => by
  by_cases hp : v > 0
  ·have e : wrap64 (Int.tdiv v 10) = v / 10 := by rw [Int.tdiv_eq_ediv_of_nonneg h0, Zc1 (by omega) (by omega)]
   have hz : ∀ d : Int, (strOfNums [d]).size = 1 := fun d => rfl
   have hlt : v / 10 < 10 ^ n := by
    rw [Int.pow_succ] at h1
    generalize (10 : Int) ^ n = p at h1 ⊢
    omega
   obtain ⟨r, hr⟩ := Zi3 n (v / 10) (strOfNums [(wrap64 (48 + (Int.tmod v 10))) % 256] ++ x) (by omega) hlt (by omega) (by rw [ByteArray.size_append, hz]; omega)
   refine ⟨r, Ev.shift hr (fun k => ?_)⟩
   simp only [Zbq.l0, Option.bind_some]
   rw [if_pos hp, hz, if_pos (by omega), e]
  ·refine ⟨(⟨#[109]⟩ : ByteArray) ++ x, Ev.shift (g := fun _ => some ((⟨#[109]⟩ : ByteArray) ++ x)) (Ev.const rfl) (fun k => ?_)⟩
   simp only [Zbq.l0]
   rw [if_neg hp, if_pos (by omega)]
theorem Zi2 (n : Nat) (h : n < 1000000) : ∃ r, Ev (fun k => Zbq.f k (n : Int)) r := by
 by_cases h0 : (n : Int) ≤ 0
 ·exact ⟨_, Ev.congr (Ev.const rfl) (fun k => if_pos h0)⟩
 ·obtain ⟨r, hr⟩ := Zi3 6 (n : Int) ⟨#[]⟩ (by omega) (by omega) (by omega) (by show 0 + 6 ≤ 100; omega)
  exact ⟨r, Ev.congr hr (fun k => if_neg h0)⟩
noncomputable def markT (n : Nat) : ByteArray := if h : n < 1000000 then Classical.choose (Zi2 n h) else ⟨#[]⟩
theorem Zkb (n : Nat) (h : n < 1000000) : Ev (fun k => Zbq.f k (n : Int)) (markT n) := by
 unfold markT
 rw [dif_pos h]
 exact Classical.choose_spec (Zi2 n h)
noncomputable def Zda (n : Nat) : List ByteArray := (List.range n).map fun j => markT (j + 1)
theorem mark_ev (l : List ByteArray) (hl : l.length < 100000) : Ev (fun k => Zbb.f k l 1) (((l.length + 1 : Nat) : Int), Zda l.length) := by
 have hml : (Zda l.length).length = l.length := by simp [Zda]
 have main : ∀ (m j : Nat) (x : List ByteArray), j + m = l.length → x.length = l.length → x.take j = (Zda l.length).take j →
   Ev (fun k => Zbb.l0 k x ((j + 1 : Nat) : Int) (j : Int)) (((l.length + 1 : Nat) : Int), Zda l.length) := by
  intro m
  induction m with
  | zero =>
   intro j x hj hx ht
   rw [List.take_of_length_le (by omega), List.take_of_length_le (by omega)] at ht
   refine Ev.shift (g := fun _ => some (((l.length + 1 : Nat) : Int), Zda l.length)) (Ev.const rfl) (fun k => ?_)
   simp only [Zbb.l0]
   rw [if_neg (by omega), ht, show j = l.length by omega]
  | succ m ih =>
   intro j x hj hx ht
   have hlt : j < x.length := by omega
   refine Ev.shift (g := fun k => (Zbq.f k ((j + 1 : Nat) : Int)).bind fun t => Zbb.l0 k (x.set j t) ((j + 1 + 1 : Nat) : Int) ((j + 1 : Nat) : Int)) (Ev.bind (Zkb (j + 1) (by omega)) ?_) (fun k => ?_)
   ·refine ih (j + 1) _ (by omega) (by simp [hx]) ?_
    rw [← List.take_append_getElem (by simpa using hlt), List.getElem_set_self, List.take_set_of_le (by omega), ht, ← List.take_append_getElem (by omega)]
    try simp [Zda]
   ·simp only [Zbb.l0]
    rw [if_pos (by omega), Zcc (j + 1) (by omega), Zcc j (by omega)]
    simp only [show (0 : Int) ≤ (j : Int) by omega, if_true, Int.toNat_natCast]
 exact Ev.congr (main l.length 0 l (by omega) rfl rfl) (fun k => rfl)
theorem Zl6 (n : Nat) (hn : n < 100000) : Ev (fun k => Za2.f k (Zda n) 1) ((n + 1 : Nat) : Int) := by
 have hml : (Zda n).length = n := by simp [Zda]
 have main : ∀ (m j : Nat), j + m = n → Ev (fun k => Za2.l0 k (Zda n) ((j + 1 : Nat) : Int) (j : Int)) ((n + 1 : Nat) : Int) := by
  intro m
  induction m with
  | zero =>
   intro j hj
   refine Ev.shift (g := fun _ => some ((n + 1 : Nat) : Int)) (Ev.const rfl) (fun k => ?_)
   simp only [Za2.l0]
   rw [if_neg (by omega), show j = n by omega]
  | succ m ih =>
   intro j hj
   have hlt : j < (Zda n).length := by omega
   have hr : rdOf ByteArray.empty (Zda n) (j : Int) = markT (j + 1) := by rw [Zgu _ j hlt]; simp [Zda]
   refine Ev.shift (g := fun k => (Zbq.f k ((j + 1 : Nat) : Int)).bind fun t => if (markT (j + 1)).toList = t.toList then Za2.l0 k (Zda n) ((j + 1 + 1 : Nat) : Int) ((j + 1 : Nat) : Int) else some (-1)) (Ev.bind (Zkb (j + 1) (by omega)) ?_) (fun k => ?_)
   ·exact Ev.congr (ih (j + 1) (by omega)) (fun k => if_pos rfl)
   ·simp only [Za2.l0]
    rw [if_pos (by omega), if_pos (by omega), hr, Zcc (j + 1) (by omega), Zcc j (by omega)]
 exact main n 0 (by omega)
theorem eqS_ev (l : List ByteArray) (hl : l.length < 100000) : Ev (fun k => Za3.f k l l) true := by
 have main : ∀ (m j : Nat), j + m = l.length → Ev (fun k => Za3.l0 k l l (j : Int)) true := by
  intro m
  induction m with
  | zero =>
   intro j hj
   refine Ev.shift (g := fun _ => some true) (Ev.const rfl) (fun k => ?_)
   simp only [Za3.l0]
   rw [if_neg (by omega)]
  | succ m ih =>
   intro j hj
   refine Ev.shift (ih (j + 1) (by omega)) (fun k => ?_)
   simp only [Za3.l0]
   rw [if_pos (by omega), if_pos (by omega), if_pos (by omega), if_pos trivial, Zcc j (by omega)]
 exact Ev.congr (main l.length 0 (by omega)) (fun k => if_pos rfl)
theorem allR_len (t d : List UInt8) : (allR t d).1.length ≤ 200 := by
 unfold allR
 split
 ·rename_i h
  show (sortS (Zdz t d)).length ≤ 200
  rw [Zea]; exact h.2
 ·exact Nat.zero_le _
theorem allStill_pure : laws_FnExactAllStill.Pure := by
 intro t d _ _
 by_cases h1 : (t.size : Int) > 1048576
 ·exact ⟨0, by unfold laws_FnExactAllStill.f; rw [if_pos h1]⟩
 ·by_cases h2 : (d.size : Int) > 1048576
  ·exact ⟨0, by unfold laws_FnExactAllStill.f; rw [if_neg h1, if_pos h2]⟩
  ·have e1 := Zgd t d (by omega) (by omega)
   have e2 := Zge t d (by omega) (by omega)
   have hl := allR_len t.data.toList d.data.toList
   generalize allR t.data.toList d.data.toList = R at e1 e2 hl
   obtain ⟨l, b⟩ := R
   have hl : l.length ≤ 200 := hl
   have eq := eqS_ev l (by omega)
   have j1 : Ev (fun k => laws_FnExactAllStill.j1 k (Zda l.length) ((l.length + 1 : Nat) : Int) (b != b)) true := by
    refine Ev.shift (g := fun k => (Za2.f k (Zda l.length) 1).bind fun t118 => if t118 < 0 then some false else if t118 = ((l.length + 1 : Nat) : Int) then some true else some false) (Ev.bind (Zl6 l.length (by omega)) (Ev.const (by rw [if_neg (by omega), if_pos rfl]))) (fun k => ?_)
    simp only [laws_FnExactAllStill.j1]
    rw [if_neg (by simp)]
   have j0 : Ev (fun k => laws_FnExactAllStill.j0 k t d l b l (b != b)) true := by
    refine Ev.shift (g := fun k => (Zbb.f k l 1).bind fun bt110 => ((Za2.f k bt110.2 1).bind fun t112 => (if t112 < 0 then (some false) else (if t112 = bt110.1 then ((Zb1.f k t d).bind fun bt113 => ((Za3.f k bt113.1 l).bind fun t117 => (if t117 = true then (laws_FnExactAllStill.j1 k bt110.2 bt110.1 (bt113.2 != b)) else (laws_FnExactAllStill.j1 k bt110.2 bt110.1 true)))) else (some false))))) ?_ (fun k => ?_)
    ·refine Ev.bind (g := fun k (bt110 : Int × List ByteArray) => ((Za2.f k bt110.2 1).bind fun t112 => (if t112 < 0 then (some false) else (if t112 = bt110.1 then ((Zb1.f k t d).bind fun bt113 => ((Za3.f k bt113.1 l).bind fun t117 => (if t117 = true then (laws_FnExactAllStill.j1 k bt110.2 bt110.1 (bt113.2 != b)) else (laws_FnExactAllStill.j1 k bt110.2 bt110.1 true)))) else (some false))))) (mark_ev l (by omega)) ?_
     refine Ev.bind (g := fun k t112 => (if t112 < 0 then (some false) else (if t112 = ((l.length + 1 : Nat) : Int) then ((Zb1.f k t d).bind fun bt113 => ((Za3.f k bt113.1 l).bind fun t117 => (if t117 = true then (laws_FnExactAllStill.j1 k (Zda l.length) ((l.length + 1 : Nat) : Int) (bt113.2 != b)) else (laws_FnExactAllStill.j1 k (Zda l.length) ((l.length + 1 : Nat) : Int) true)))) else (some false)))) (Zl6 l.length (by omega)) ?_
     refine Ev.congr (g := fun k => (Zb1.f k t d).bind fun bt113 => ((Za3.f k bt113.1 l).bind fun t117 => (if t117 = true then (laws_FnExactAllStill.j1 k (Zda l.length) ((l.length + 1 : Nat) : Int) (bt113.2 != b)) else (laws_FnExactAllStill.j1 k (Zda l.length) ((l.length + 1 : Nat) : Int) true)))) ?_ (fun k => by rw [if_neg (by omega), if_pos rfl])
     refine Ev.bind (g := fun k (bt113 : List ByteArray × Bool) => ((Za3.f k bt113.1 l).bind fun t117 => (if t117 = true then (laws_FnExactAllStill.j1 k (Zda l.length) ((l.length + 1 : Nat) : Int) (bt113.2 != b)) else (laws_FnExactAllStill.j1 k (Zda l.length) ((l.length + 1 : Nat) : Int) true)))) e2 ?_
     exact Ev.bind (g := fun k t117 => (if t117 = true then (laws_FnExactAllStill.j1 k (Zda l.length) ((l.length + 1 : Nat) : Int) (b != b)) else (laws_FnExactAllStill.j1 k (Zda l.length) ((l.length + 1 : Nat) : Int) true))) eq j1
    ·simp only [laws_FnExactAllStill.j0]
     rw [if_neg (by simp)]
   have law : Ev (fun k => laws_FnExactAllStill.f k t d) true := by
    refine Ev.congr (g := fun k => (Zaw.f k t d).bind fun bt101 => ((Zb1.f k t d).bind fun bt105 => ((Za3.f k bt105.1 bt101.1).bind fun t109 => (if t109 = true then (laws_FnExactAllStill.j0 k t d bt101.1 bt101.2 bt105.1 (bt105.2 != bt101.2)) else (laws_FnExactAllStill.j0 k t d bt101.1 bt101.2 bt105.1 true))))) ?_ (fun k => by unfold laws_FnExactAllStill.f; rw [if_neg h1, if_neg h2])
    refine Ev.bind (g := fun k (bt101 : List ByteArray × Bool) => ((Zb1.f k t d).bind fun bt105 => ((Za3.f k bt105.1 bt101.1).bind fun t109 => (if t109 = true then (laws_FnExactAllStill.j0 k t d bt101.1 bt101.2 bt105.1 (bt105.2 != bt101.2)) else (laws_FnExactAllStill.j0 k t d bt101.1 bt101.2 bt105.1 true))))) e1 ?_
    refine Ev.bind (g := fun k (bt105 : List ByteArray × Bool) => ((Za3.f k bt105.1 l).bind fun t109 => (if t109 = true then (laws_FnExactAllStill.j0 k t d l b bt105.1 (bt105.2 != b)) else (laws_FnExactAllStill.j0 k t d l b bt105.1 true)))) e2 ?_
    exact Ev.bind (g := fun k t109 => (if t109 = true then (laws_FnExactAllStill.j0 k t d l b l (b != b)) else (laws_FnExactAllStill.j0 k t d l b l true))) eq j0
   exact law.get
end Go.Proofs.YtjohcjkidoalkaaGreatDoor.Plain
namespace Go.Proofs.YtjohcjkidoalkaaGreatDoor
theorem fnExactAllStill_holds : Rows.FnExactAllStillCardSaid := fnExactAllStill.carded Plain.allStill_pure
end Go.Proofs.YtjohcjkidoalkaaGreatDoor
